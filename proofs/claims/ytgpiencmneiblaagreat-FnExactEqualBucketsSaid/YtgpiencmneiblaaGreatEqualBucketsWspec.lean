/-
  Helper text: walks: each function's contract out of its model. No conditions beyond those of each contract.
-/
import Derived.Test.YtgpiencmneiblaaGreatEqualBucketsTi
namespace Go.Proofs.YtgpiencmneiblaaGreat.gen
open Go Go.Sh
set_option linter.unusedVariables false
set_option linter.unusedSimpArgs false
set_option maxHeartbeats 4000000 in
theorem c_spec_EqualBytes (p0 : List Int) (p1 : List Int) (r : Bool) (h : m_spec_EqualBytes p0 p1 = some r) : SCalls Tryz.prog 138 [(false, [.sl (List.map enB p0)]), (false, [.sl (List.map enB p1)])] [(false, [.ro (.bool r)])] := by
  unfold m_spec_EqualBytes at h
  refine scalls_n (N := 10) (vars := [.tmp 4]) Tryz.func138 rfl rfl rfl (by decide +kernel) (Nat.le_of_ble_eq_true rfl) fun base wd => ?_
  refine sq ?_
  apply SW_run
  · simp +decide only [E, reduceIte, Nat.reduceAdd, Nat.reduceMul, L]
    exact Is.mk _
  refine an (sq ?_)
  obtain ⟨x1, h2, h⟩ := bind_some h
  obtain ⟨x3, h4, h⟩ := bind_some h
  apply SW_run
  · simp +decide only [E, reduceIte, Nat.reduceAdd, Nat.reduceMul, strOf_en, L, ti5, ti9, ti31]
    refine ⟨toStr_must h2, ?_⟩
    try simp +decide only [E, reduceIte, Nat.reduceAdd, Nat.reduceMul, strOf_en, L, ti5, ti9, ti31]
    refine ⟨toStr_must h4, ?_⟩
    try simp +decide only [E, reduceIte, Nat.reduceAdd, Nat.reduceMul, strOf_en, L, ti5, ti9, ti31]
    exact Is.mk _
  refine an (rt ?_)
  cases h
  simp [Ret, ]

set_option maxHeartbeats 4000000 in
theorem c_spec_EqualResponses (p0 : M.Response) (p1 : M.Response) (r : Bool) (h : m_spec_EqualResponses p0 p1 = some r) : SCalls Tryz.prog 136 [(true, M.Response.en p0), (true, M.Response.en p1)] [(false, [.ro (.bool r)])] := by
  unfold m_spec_EqualResponses at h
  simp only [M.Response.en]
  refine scalls_n (N := 38) (vars := [.tmp 4]) Tryz.func136 rfl rfl rfl (by decide +kernel) (Nat.le_of_ble_eq_true rfl) fun base wd => ?_
  refine sq ?_
  apply SW_run
  · simp +decide only [E, reduceIte, Nat.reduceAdd, Nat.reduceMul, L]
    exact Is.mk _
  refine an (sq ?_)
  rcases bcas (p0.Type_ == p1.Type_) with b1 | b1
  · replace h := ite_f b1 h
    apply SW_run
    · simp +decide only [E, reduceIte, Nat.reduceAdd, Nat.reduceMul, L, ti3, ti187, b1]
      exact Is.mk _
    refine an (rt ?_)
    cases h
    simp [Ret, b1]
  replace h := ite_t b1 h
  rcases bcas (p0.Status == p1.Status) with b2 | b2
  · replace h := ite_f b2 h
    apply SW_run
    · simp +decide only [E, reduceIte, Nat.reduceAdd, Nat.reduceMul, L, ti3, ti187, b1, b2]
      exact Is.mk _
    refine an (rt ?_)
    cases h
    simp [Ret, b1, b2]
  replace h := ite_t b2 h
  rcases bcas (p0.Version == p1.Version) with b3 | b3
  · replace h := ite_f b3 h
    apply SW_run
    · simp +decide only [E, reduceIte, Nat.reduceAdd, Nat.reduceMul, L, ti3, ti187, b1, b2, b3]
      exact Is.mk _
    refine an (rt ?_)
    cases h
    simp [Ret, b1, b2, b3]
  replace h := ite_t b3 h
  rcases bcas (p0.Shares == p1.Shares) with b4 | b4
  · replace h := ite_f b4 h
    apply SW_run
    · simp +decide only [E, reduceIte, Nat.reduceAdd, Nat.reduceMul, L, ti3, ti4, ti187, b1, b2, b3, b4]
      exact Is.mk _
    refine an (rt ?_)
    cases h
    simp [Ret, b1, b2, b3, b4]
  replace h := ite_t b4 h
  obtain ⟨x5, h6, h⟩ := bind_some h
  apply SW_run
  · simp +decide only [E, reduceIte, Nat.reduceAdd, Nat.reduceMul, L, ti3, ti4, ti31, ti187, b1, b2, b3, b4]
    refine ⟨_, c_spec_EqualBytes p0.Body p1.Body x5 h6, ?_⟩
    try simp +decide only [E, reduceIte, Nat.reduceAdd, Nat.reduceMul, L, ti3, ti4, ti31, ti187, b1, b2, b3, b4]
    exact Is.mk _
  refine an (rt ?_)
  cases h
  simp [Ret, b1, b2, b3, b4]

set_option maxHeartbeats 4000000 in
theorem c_spec_EqualCacheSets (p0 : M.CacheSet) (p1 : M.CacheSet) (r : Bool) (h : m_spec_EqualCacheSets p0 p1 = some r) : SCalls Tryz.prog 60 [(true, M.CacheSet.en p0), (true, M.CacheSet.en p1)] [(false, [.ro (.bool r)])] := by
  unfold m_spec_EqualCacheSets at h
  simp only [M.CacheSet.en]
  refine scalls_n (N := 98) (vars := [.tmp 4]) Tryz.func60 rfl rfl rfl (by decide +kernel) (Nat.le_of_ble_eq_true rfl) fun base wd => ?_
  refine sq ?_
  apply SW_run
  · simp +decide only [E, reduceIte, Nat.reduceAdd, Nat.reduceMul, L]
    exact Is.mk _
  refine an (sq (sq ?_))
  apply SW_run
  · simp +decide only [E, reduceIte, Nat.reduceAdd, Nat.reduceMul, L, ti49, ti51]
    exact Is.mk _
  refine an ?_
  rcases bcase ((List.length p0.Caches : Int) != (List.length p1.Caches : Int)) with b1 | b1
  · replace h := ite_t b1 h
    refine SW_ct (by simp +decide only [F, reduceIte, Nat.reduceAdd, b1]) ?_
    refine sq ?_
    apply SW_run
    · simp +decide only [E, reduceIte, Nat.reduceAdd, Nat.reduceMul, L, b1]
      exact Is.mk _
    refine an (rt ?_)
    cases h
    simp [Ret, b1]
  replace h := ite_f b1 h
  refine SW_cf (by simp +decide only [F, reduceIte, Nat.reduceAdd, b1]) ?_
  refine sk (an (sq (sq ?_)))
  apply SW_run
  · simp +decide only [E, reduceIte, Nat.reduceAdd, Nat.reduceMul, L, b1]
    exact Is.mk _
  refine an (bk ?_)
  refine SW_loop (fun m s => ∃ v5 : Int, s.t 2 = .v false [.bp 2 1 0] ∧ s.t 3 = .v false [.bp 3 1 0] ∧ s.t 5 = .v false [.dat (.int .i64 v5)] ∧ s.h 2 = (1, .box 51 [.dat (.sl (List.map M.Cache.en p0.Caches))]) ∧ s.h 3 = (1, .box 51 [.dat (.sl (List.map M.Cache.en p1.Caches))]) ∧ m_spec_EqualCacheSets_L1 p0 p1 m v5 = some r) fuel ?_ ?_
  · refine ⟨0, ?_, ?_, ?_, ?_, ?_, h⟩
    all_goals simp +decide only [F, reduceIte, Nat.reduceAdd, b1]
  rintro mL1 s2 ⟨v5, f3, f4, f5, f6, f7, h⟩
  rcases mL1 with _ | mL1
  · exact absurd h (by simp [m_spec_EqualCacheSets_L1])
  simp only [m_spec_EqualCacheSets_L1] at h
  refine sq (sq ?_)
  apply SW_run
  · simp +decide only [E, reduceIte, Nat.reduceAdd, Nat.reduceMul, L, ti49, ti51, b1, f3, f4, f5, f6, f7]
    exact Is.mk _
  refine an ?_
  rcases bcas (decide (v5 < (List.length p0.Caches : Int))) with b8 | b8
  · replace h := ite_f b8 h
    refine SW_cf (by simp +decide only [F, reduceIte, Nat.reduceAdd, b1, f3, f4, f5, f6, f7, b8]) ?_
    refine xt (aft_cx (aft_ix (aft_x (an (sq ?_)))))
    apply SW_run
    · simp +decide only [E, reduceIte, Nat.reduceAdd, Nat.reduceMul, L, b1, f3, f4, f5, f6, f7, b8]
      exact Is.mk _
    refine an (rt ?_)
    cases h
    simp [Ret, b1, f3, f4, f5, f6, f7, b8]
  replace h := ite_t b8 h
  refine SW_ct (by simp +decide only [F, reduceIte, Nat.reduceAdd, b1, f3, f4, f5, f6, f7, b8]) ?_
  refine sk (an (sq (bk (sq ?_))))
  obtain ⟨x9, h10, h⟩ := bind_some h
  obtain ⟨q11, q12, q13⟩ := idx_some h10
  apply SW_run
  · simp +decide only [E, reduceIte, Nat.reduceAdd, Nat.reduceMul, L, ti49, ti51, ti185, M.Cache.en, b1, f3, f4, f5, f6, f7, b8, q11, q12, q13]
    exact Is.mk _
  refine an (sq ?_)
  obtain ⟨x14, h15, h⟩ := bind_some h
  obtain ⟨q16, q17, q18⟩ := idx_some h15
  apply SW_run
  · simp +decide only [E, reduceIte, Nat.reduceAdd, Nat.reduceMul, L, ti49, ti51, ti185, M.Cache.en, b1, f3, f4, f5, f6, f7, b8, q11, q12, q13, q16, q17, q18]
    exact Is.mk _
  refine an (sq (sq ?_))
  rcases bcase (x9.Version != x14.Version) with b19 | b19
  · replace h := ite_t b19 h
    apply SW_run
    · simp +decide only [E, reduceIte, Nat.reduceAdd, Nat.reduceMul, L, ti3, ti185, b1, f3, f4, f5, f6, f7, b8, q11, q12, q13, q16, q17, q18, b19]
      exact Is.mk _
    refine an ?_
    refine SW_ct (by simp +decide only [F, reduceIte, Nat.reduceAdd, b1, f3, f4, f5, f6, f7, b8, q11, q12, q13, q16, q17, q18, b19]) ?_
    refine sq ?_
    apply SW_run
    · simp +decide only [E, reduceIte, Nat.reduceAdd, Nat.reduceMul, L, b1, f3, f4, f5, f6, f7, b8, q11, q12, q13, q16, q17, q18, b19]
      exact Is.mk _
    refine an (rt ?_)
    cases h
    simp [Ret, b1, f3, f4, f5, f6, f7, b8, q11, q12, q13, q16, q17, q18, b19]
  replace h := ite_f b19 h
  apply SW_run
  · simp +decide only [E, reduceIte, Nat.reduceAdd, Nat.reduceMul, L, ti3, ti183, ti185, b1, f3, f4, f5, f6, f7, b8, q11, q12, q13, q16, q17, q18, b19]
    exact Is.mk _
  refine an ?_
  rcases bcase ((List.length x9.Entries : Int) != (List.length x14.Entries : Int)) with b20 | b20
  · replace h := ite_t b20 h
    refine SW_ct (by simp +decide only [F, reduceIte, Nat.reduceAdd, b1, f3, f4, f5, f6, f7, b8, q11, q12, q13, q16, q17, q18, b19, b20]) ?_
    refine sq ?_
    apply SW_run
    · simp +decide only [E, reduceIte, Nat.reduceAdd, Nat.reduceMul, L, b1, f3, f4, f5, f6, f7, b8, q11, q12, q13, q16, q17, q18, b19, b20]
      exact Is.mk _
    refine an (rt ?_)
    cases h
    simp [Ret, b1, f3, f4, f5, f6, f7, b8, q11, q12, q13, q16, q17, q18, b19, b20]
  replace h := ite_f b20 h
  refine SW_cf (by simp +decide only [F, reduceIte, Nat.reduceAdd, b1, f3, f4, f5, f6, f7, b8, q11, q12, q13, q16, q17, q18, b19, b20]) ?_
  refine sk (an (sq ?_))
  apply SW_run
  · simp +decide only [E, reduceIte, Nat.reduceAdd, Nat.reduceMul, L, b1, f3, f4, f5, f6, f7, b8, q11, q12, q13, q16, q17, q18, b19, b20]
    exact Is.mk _
  refine an (bk ?_)
  obtain ⟨k22, e23, h⟩ := absk (f := fun kk => m_spec_EqualCacheSets_L2 x9 x14 kk fuel 0) h
  refine SW_loop (fun m s => ∃ v8_L2 : Int, s.t 2 = .v false [.bp 2 1 0] ∧ s.t 3 = .v false [.bp 3 1 0] ∧ s.t 5 = .v false [.dat (.int .i64 v5)] ∧ s.t 6 = .v false [.bp 6 ((s2.h 6).1 + 1) 0] ∧ s.t 7 = .v false [.bp 7 ((s2.h 7).1 + 1) 0] ∧ s.t 8 = .v false [.dat (.int .i64 v8_L2)] ∧ s.h 2 = (1, .box 51 [.dat (.sl (List.map M.Cache.en p0.Caches))]) ∧ s.h 3 = (1, .box 51 [.dat (.sl (List.map M.Cache.en p1.Caches))]) ∧ s.h 6 = (((s2.h 6).1 + 1), .box 185 [.dat (.int .i64 x9.Version), .dat (.sl (List.map M.Cached.en x9.Entries))]) ∧ s.h 7 = (((s2.h 7).1 + 1), .box 185 [.dat (.int .i64 x14.Version), .dat (.sl (List.map M.Cached.en x14.Entries))]) ∧ m_spec_EqualCacheSets_L2 x9 x14 k22 m v8_L2 = some r) fuel ?_ ?_
  · refine ⟨0, ?_, ?_, ?_, ?_, ?_, ?_, ?_, ?_, ?_, ?_, h⟩
    all_goals simp +decide only [F, reduceIte, Nat.reduceAdd, b1, f3, f4, f5, f6, f7, b8, q11, q12, q13, q16, q17, q18, b19, b20]
  rintro mL2 s21 ⟨v8_L2, f24, f25, f26, f27, f28, f29, f30, f31, f32, f33, h⟩
  rcases mL2 with _ | mL2
  · exact absurd h (by simp [m_spec_EqualCacheSets_L2])
  simp only [m_spec_EqualCacheSets_L2] at h
  refine sq (sq ?_)
  apply SW_run
  · simp +decide only [E, reduceIte, Nat.reduceAdd, Nat.reduceMul, L, ti183, ti185, b1, b8, q11, q12, q13, q16, q17, q18, b19, b20, f24, f25, f26, f27, f28, f29, f30, f31, f32, f33]
    exact Is.mk _
  refine an ?_
  rcases bcas (decide (v8_L2 < (List.length x9.Entries : Int))) with b34 | b34
  · replace h := ite_f b34 h
    refine SW_cf (by simp +decide only [F, reduceIte, Nat.reduceAdd, b1, b8, q11, q12, q13, q16, q17, q18, b19, b20, f24, f25, f26, f27, f28, f29, f30, f31, f32, f33, b34]) ?_
    refine xt (aft_cx ?_)
    subst e23
    refine aft_ix (aft_x (ab (an ?_)))
    apply SW_run
    · simp +decide only [E, reduceIte, Nat.reduceAdd, Nat.reduceMul, L, b1, b8, q11, q12, q13, q16, q17, q18, b19, b20, f24, f25, f26, f27, f28, f29, f30, f31, f32, f33, b34]
      exact Is.mk _
    refine aft_i ⟨mL1, by omega, (IntKind.i64.wrap (v5 + 1)), ?_, ?_, ?_, ?_, ?_, h⟩
    all_goals simp +decide only [F, reduceIte, Nat.reduceAdd, b1, b8, q11, q12, q13, q16, q17, q18, b19, b20, f24, f25, f26, f27, f28, f29, f30, f31, f32, f33, b34]
  replace h := ite_t b34 h
  refine SW_ct (by simp +decide only [F, reduceIte, Nat.reduceAdd, b1, b8, q11, q12, q13, q16, q17, q18, b19, b20, f24, f25, f26, f27, f28, f29, f30, f31, f32, f33, b34]) ?_
  refine sk (an (sq (bk (sq ?_))))
  obtain ⟨x35, h36, h⟩ := bind_some h
  obtain ⟨q37, q38, q39⟩ := idx_some h36
  obtain ⟨x40, h41, h⟩ := bind_some h
  obtain ⟨q42, q43, q44⟩ := idx_some h41
  rcases bcase (!(x35.Site.toList == x40.Site.toList)) with b45 | b45
  · replace h := ite_t b45 h
    apply SW_runD mixed
    · simp +decide only [E, reduceIte, Nat.reduceAdd, Nat.reduceMul, L, ti9, ti183, ti185, ti189, M.Cached.en, b1, b8, q11, q12, q13, q16, q17, q18, b19, b20, f24, f25, f26, f27, f28, f29, f30, f31, f32, f33, b34, q37, q38, q39, q42, q43, q44, b45]
      exact ⟨.mk (by decide +kernel), Is.mk _⟩
    refine an ?_
    refine SW_ct (by simp +decide only [F, reduceIte, Nat.reduceAdd, b1, b8, q11, q12, q13, q16, q17, q18, b19, b20, f24, f25, f26, f27, f28, f29, f30, f31, f32, f33, b34, q37, q38, q39, q42, q43, q44, b45]) ?_
    refine sq ?_
    apply SW_run
    · simp +decide only [E, reduceIte, Nat.reduceAdd, Nat.reduceMul, L, b1, b8, q11, q12, q13, q16, q17, q18, b19, b20, f24, f25, f26, f27, f28, f29, f30, f31, f32, f33, b34, q37, q38, q39, q42, q43, q44, b45]
      exact Is.mk _
    refine an (rt ?_)
    cases h
    simp [Ret, b1, b8, q11, q12, q13, q16, q17, q18, b19, b20, f24, f25, f26, f27, f28, f29, f30, f31, f32, f33, b34, q37, q38, q39, q42, q43, q44, b45]
  replace h := ite_f b45 h
  rcases bcase (!(x35.Path.toList == x40.Path.toList)) with b46 | b46
  · replace h := ite_t b46 h
    apply SW_runD mixed
    · simp +decide only [E, reduceIte, Nat.reduceAdd, Nat.reduceMul, L, ti9, ti183, ti185, ti189, M.Cached.en, b1, b8, q11, q12, q13, q16, q17, q18, b19, b20, f24, f25, f26, f27, f28, f29, f30, f31, f32, f33, b34, q37, q38, q39, q42, q43, q44, b45, b46]
      exact ⟨.mk (by decide +kernel), Is.mk _⟩
    refine an ?_
    refine SW_ct (by simp +decide only [F, reduceIte, Nat.reduceAdd, b1, b8, q11, q12, q13, q16, q17, q18, b19, b20, f24, f25, f26, f27, f28, f29, f30, f31, f32, f33, b34, q37, q38, q39, q42, q43, q44, b45, b46]) ?_
    refine sq ?_
    apply SW_run
    · simp +decide only [E, reduceIte, Nat.reduceAdd, Nat.reduceMul, L, b1, b8, q11, q12, q13, q16, q17, q18, b19, b20, f24, f25, f26, f27, f28, f29, f30, f31, f32, f33, b34, q37, q38, q39, q42, q43, q44, b45, b46]
      exact Is.mk _
    refine an (rt ?_)
    cases h
    simp [Ret, b1, b8, q11, q12, q13, q16, q17, q18, b19, b20, f24, f25, f26, f27, f28, f29, f30, f31, f32, f33, b34, q37, q38, q39, q42, q43, q44, b45, b46]
  replace h := ite_f b46 h
  obtain ⟨x47, h48, h⟩ := bind_some h
  apply SW_runD mixed
  · simp +decide only [E, reduceIte, Nat.reduceAdd, Nat.reduceMul, L, ti9, ti183, ti185, ti187, ti189, M.Cached.en, b1, b8, q11, q12, q13, q16, q17, q18, b19, b20, f24, f25, f26, f27, f28, f29, f30, f31, f32, f33, b34, q37, q38, q39, q42, q43, q44, b45, b46]
    refine ⟨_, c_spec_EqualResponses x35.Response x40.Response x47 h48, ?_⟩
    try simp +decide only [E, reduceIte, Nat.reduceAdd, Nat.reduceMul, L, ti9, ti183, ti185, ti187, ti189, M.Cached.en, b1, b8, q11, q12, q13, q16, q17, q18, b19, b20, f24, f25, f26, f27, f28, f29, f30, f31, f32, f33, b34, q37, q38, q39, q42, q43, q44, b45, b46]
    exact ⟨.mk (by decide +kernel), Is.mk _⟩
  refine an ?_
  rcases bcase (!x47) with b49 | b49
  · replace h := ite_t b49 h
    refine SW_ct (by simp +decide only [F, reduceIte, Nat.reduceAdd, b1, b8, q11, q12, q13, q16, q17, q18, b19, b20, f24, f25, f26, f27, f28, f29, f30, f31, f32, f33, b34, q37, q38, q39, q42, q43, q44, b45, b46, b49]) ?_
    refine sq ?_
    apply SW_run
    · simp +decide only [E, reduceIte, Nat.reduceAdd, Nat.reduceMul, L, b1, b8, q11, q12, q13, q16, q17, q18, b19, b20, f24, f25, f26, f27, f28, f29, f30, f31, f32, f33, b34, q37, q38, q39, q42, q43, q44, b45, b46, b49]
      exact Is.mk _
    refine an (rt ?_)
    cases h
    simp [Ret, b1, b8, q11, q12, q13, q16, q17, q18, b19, b20, f24, f25, f26, f27, f28, f29, f30, f31, f32, f33, b34, q37, q38, q39, q42, q43, q44, b45, b46, b49]
  replace h := ite_f b49 h
  refine SW_cf (by simp +decide only [F, reduceIte, Nat.reduceAdd, b1, b8, q11, q12, q13, q16, q17, q18, b19, b20, f24, f25, f26, f27, f28, f29, f30, f31, f32, f33, b34, q37, q38, q39, q42, q43, q44, b45, b46, b49]) ?_
  refine sk (ab (an ?_))
  apply SW_run
  · simp +decide only [E, reduceIte, Nat.reduceAdd, Nat.reduceMul, L, b1, b8, q11, q12, q13, q16, q17, q18, b19, b20, f24, f25, f26, f27, f28, f29, f30, f31, f32, f33, b34, q37, q38, q39, q42, q43, q44, b45, b46, b49]
    exact Is.mk _
  refine aft_i ⟨mL2, by omega, (IntKind.i64.wrap (v8_L2 + 1)), ?_, ?_, ?_, ?_, ?_, ?_, ?_, ?_, ?_, ?_, h⟩
  all_goals simp +decide only [F, reduceIte, Nat.reduceAdd, b1, b8, q11, q12, q13, q16, q17, q18, b19, b20, f24, f25, f26, f27, f28, f29, f30, f31, f32, f33, b34, q37, q38, q39, q42, q43, q44, b45, b46, b49]

set_option maxHeartbeats 4000000 in
theorem c_spec_EqualRecords (p0 : M.Record) (p1 : M.Record) (r : Bool) (h : m_spec_EqualRecords p0 p1 = some r) : SCalls Tryz.prog 216 [(true, M.Record.en p0), (true, M.Record.en p1)] [(false, [.ro (.bool r)])] := by
  unfold m_spec_EqualRecords at h
  simp only [M.Record.en]
  refine scalls_n (N := 31) (vars := [.tmp 4]) Tryz.func216 rfl rfl rfl (by decide +kernel) (Nat.le_of_ble_eq_true rfl) fun base wd => ?_
  refine sq ?_
  apply SW_run
  · simp +decide only [E, reduceIte, Nat.reduceAdd, Nat.reduceMul, L]
    exact Is.mk _
  refine an (sq (sq ?_))
  apply SW_run
  · simp +decide only [E, reduceIte, Nat.reduceAdd, Nat.reduceMul, L, ti204, ti206]
    exact Is.mk _
  refine an ?_
  rcases bcase ((List.length p0.Fields : Int) != (List.length p1.Fields : Int)) with b1 | b1
  · replace h := ite_t b1 h
    refine SW_ct (by simp +decide only [F, reduceIte, Nat.reduceAdd, b1]) ?_
    refine sq ?_
    apply SW_run
    · simp +decide only [E, reduceIte, Nat.reduceAdd, Nat.reduceMul, L, b1]
      exact Is.mk _
    refine an (rt ?_)
    cases h
    simp [Ret, b1]
  replace h := ite_f b1 h
  refine SW_cf (by simp +decide only [F, reduceIte, Nat.reduceAdd, b1]) ?_
  refine sk (an (sq (sq ?_)))
  apply SW_run
  · simp +decide only [E, reduceIte, Nat.reduceAdd, Nat.reduceMul, L, b1]
    exact Is.mk _
  refine an (bk ?_)
  refine SW_loop (fun m s => ∃ v5 : Int, s.t 2 = .v false [.bp 2 1 0] ∧ s.t 3 = .v false [.bp 3 1 0] ∧ s.t 5 = .v false [.dat (.int .i64 v5)] ∧ s.h 2 = (1, .box 206 [.dat (.sl (List.map M.Field.en p0.Fields))]) ∧ s.h 3 = (1, .box 206 [.dat (.sl (List.map M.Field.en p1.Fields))]) ∧ m_spec_EqualRecords_L1 p0 p1 m v5 = some r) fuel ?_ ?_
  · refine ⟨0, ?_, ?_, ?_, ?_, ?_, h⟩
    all_goals simp +decide only [F, reduceIte, Nat.reduceAdd, b1]
  rintro mL1 s2 ⟨v5, f3, f4, f5, f6, f7, h⟩
  rcases mL1 with _ | mL1
  · exact absurd h (by simp [m_spec_EqualRecords_L1])
  simp only [m_spec_EqualRecords_L1] at h
  refine sq (sq ?_)
  apply SW_run
  · simp +decide only [E, reduceIte, Nat.reduceAdd, Nat.reduceMul, L, ti204, ti206, b1, f3, f4, f5, f6, f7]
    exact Is.mk _
  refine an ?_
  rcases bcas (decide (v5 < (List.length p0.Fields : Int))) with b8 | b8
  · replace h := ite_f b8 h
    refine SW_cf (by simp +decide only [F, reduceIte, Nat.reduceAdd, b1, f3, f4, f5, f6, f7, b8]) ?_
    refine xt (aft_cx (aft_ix (aft_x (an (sq ?_)))))
    apply SW_run
    · simp +decide only [E, reduceIte, Nat.reduceAdd, Nat.reduceMul, L, b1, f3, f4, f5, f6, f7, b8]
      exact Is.mk _
    refine an (rt ?_)
    cases h
    simp [Ret, b1, f3, f4, f5, f6, f7, b8]
  replace h := ite_t b8 h
  refine SW_ct (by simp +decide only [F, reduceIte, Nat.reduceAdd, b1, f3, f4, f5, f6, f7, b8]) ?_
  refine sk (an (sq (bk (sq ?_))))
  obtain ⟨x9, h10, h⟩ := bind_some h
  obtain ⟨q11, q12, q13⟩ := idx_some h10
  obtain ⟨x14, h15, h⟩ := bind_some h
  obtain ⟨q16, q17, q18⟩ := idx_some h15
  apply SW_runD mixed
  · simp +decide only [E, reduceIte, Nat.reduceAdd, Nat.reduceMul, L, ti204, ti206, ti273, M.Field.en, b1, f3, f4, f5, f6, f7, b8, q11, q12, q13, q16, q17, q18]
    exact ⟨.mk (by decide +kernel), Is.mk _⟩
  refine an ?_
  rcases bcase (!((x9.Name.toList == x14.Name.toList) && (x9.N == x14.N))) with b19 | b19
  · replace h := ite_t b19 h
    refine SW_ct (by simp +decide only [F, reduceIte, Nat.reduceAdd, b1, f3, f4, f5, f6, f7, b8, q11, q12, q13, q16, q17, q18, b19]) ?_
    refine sq ?_
    apply SW_run
    · simp +decide only [E, reduceIte, Nat.reduceAdd, Nat.reduceMul, L, b1, f3, f4, f5, f6, f7, b8, q11, q12, q13, q16, q17, q18, b19]
      exact Is.mk _
    refine an (rt ?_)
    cases h
    simp [Ret, b1, f3, f4, f5, f6, f7, b8, q11, q12, q13, q16, q17, q18, b19]
  replace h := ite_f b19 h
  refine SW_cf (by simp +decide only [F, reduceIte, Nat.reduceAdd, b1, f3, f4, f5, f6, f7, b8, q11, q12, q13, q16, q17, q18, b19]) ?_
  refine sk (ab (an ?_))
  apply SW_run
  · simp +decide only [E, reduceIte, Nat.reduceAdd, Nat.reduceMul, L, b1, f3, f4, f5, f6, f7, b8, q11, q12, q13, q16, q17, q18, b19]
    exact Is.mk _
  refine aft_i ⟨mL1, by omega, (IntKind.i64.wrap (v5 + 1)), ?_, ?_, ?_, ?_, ?_, h⟩
  all_goals simp +decide only [F, reduceIte, Nat.reduceAdd, b1, f3, f4, f5, f6, f7, b8, q11, q12, q13, q16, q17, q18, b19]

set_option maxHeartbeats 4000000 in
theorem c_spec_EqualStores (p0 : M.Store) (p1 : M.Store) (r : Bool) (h : m_spec_EqualStores p0 p1 = some r) : SCalls Tryz.prog 139 [(true, M.Store.en p0), (true, M.Store.en p1)] [(false, [.ro (.bool r)])] := by
  unfold m_spec_EqualStores at h
  simp only [M.Store.en]
  refine scalls_n (N := 63) (vars := [.tmp 4]) Tryz.func139 rfl rfl rfl (by decide +kernel) (Nat.le_of_ble_eq_true rfl) fun base wd => ?_
  refine sq ?_
  apply SW_run
  · simp +decide only [E, reduceIte, Nat.reduceAdd, Nat.reduceMul, L]
    exact Is.mk _
  refine an (sq (sq ?_))
  rcases bcase (!(p0.Name.toList == p1.Name.toList)) with b1 | b1
  · replace h := ite_t b1 h
    apply SW_run
    · simp +decide only [E, reduceIte, Nat.reduceAdd, Nat.reduceMul, L, ti9, ti60, b1]
      exact Is.mk _
    refine an ?_
    refine SW_ct (by simp +decide only [F, reduceIte, Nat.reduceAdd, b1]) ?_
    refine sq ?_
    apply SW_run
    · simp +decide only [E, reduceIte, Nat.reduceAdd, Nat.reduceMul, L, b1]
      exact Is.mk _
    refine an (rt ?_)
    cases h
    simp [Ret, b1]
  replace h := ite_f b1 h
  rcases bcase (p0.Auto != p1.Auto) with b2 | b2
  · replace h := ite_t b2 h
    apply SW_run
    · simp +decide only [E, reduceIte, Nat.reduceAdd, Nat.reduceMul, L, ti3, ti9, ti60, b1, b2]
      exact Is.mk _
    refine an ?_
    refine SW_ct (by simp +decide only [F, reduceIte, Nat.reduceAdd, b1, b2]) ?_
    refine sq ?_
    apply SW_run
    · simp +decide only [E, reduceIte, Nat.reduceAdd, Nat.reduceMul, L, b1, b2]
      exact Is.mk _
    refine an (rt ?_)
    cases h
    simp [Ret, b1, b2]
  replace h := ite_f b2 h
  apply SW_run
  · simp +decide only [E, reduceIte, Nat.reduceAdd, Nat.reduceMul, L, ti3, ti9, ti58, ti60, b1, b2]
    exact Is.mk _
  refine an ?_
  rcases bcase ((List.length p0.Items : Int) != (List.length p1.Items : Int)) with b3 | b3
  · replace h := ite_t b3 h
    refine SW_ct (by simp +decide only [F, reduceIte, Nat.reduceAdd, b1, b2, b3]) ?_
    refine sq ?_
    apply SW_run
    · simp +decide only [E, reduceIte, Nat.reduceAdd, Nat.reduceMul, L, b1, b2, b3]
      exact Is.mk _
    refine an (rt ?_)
    cases h
    simp [Ret, b1, b2, b3]
  replace h := ite_f b3 h
  refine SW_cf (by simp +decide only [F, reduceIte, Nat.reduceAdd, b1, b2, b3]) ?_
  refine sk (an (sq (sq ?_)))
  apply SW_run
  · simp +decide only [E, reduceIte, Nat.reduceAdd, Nat.reduceMul, L, b1, b2, b3]
    exact Is.mk _
  refine an (bk ?_)
  refine SW_loop (fun m s => ∃ v5 : Int, s.t 2 = .v false [.bp 2 1 0] ∧ s.t 3 = .v false [.bp 3 1 0] ∧ s.t 5 = .v false [.dat (.int .i64 v5)] ∧ s.h 2 = (1, .box 60 [.dat (.str p0.Name), .dat (.sl (List.map M.Item.en p0.Items)), .dat (.int .i64 p0.Auto)]) ∧ s.h 3 = (1, .box 60 [.dat (.str p1.Name), .dat (.sl (List.map M.Item.en p1.Items)), .dat (.int .i64 p1.Auto)]) ∧ m_spec_EqualStores_L1 p0 p1 m v5 = some r) fuel ?_ ?_
  · refine ⟨0, ?_, ?_, ?_, ?_, ?_, h⟩
    all_goals simp +decide only [F, reduceIte, Nat.reduceAdd, b1, b2, b3]
  rintro mL1 s4 ⟨v5, f5, f6, f7, f8, f9, h⟩
  rcases mL1 with _ | mL1
  · exact absurd h (by simp [m_spec_EqualStores_L1])
  simp only [m_spec_EqualStores_L1] at h
  refine sq (sq ?_)
  apply SW_run
  · simp +decide only [E, reduceIte, Nat.reduceAdd, Nat.reduceMul, L, ti58, ti60, b1, b2, b3, f5, f6, f7, f8, f9]
    exact Is.mk _
  refine an ?_
  rcases bcas (decide (v5 < (List.length p0.Items : Int))) with b10 | b10
  · replace h := ite_f b10 h
    refine SW_cf (by simp +decide only [F, reduceIte, Nat.reduceAdd, b1, b2, b3, f5, f6, f7, f8, f9, b10]) ?_
    refine xt (aft_cx (aft_ix (aft_x (an (sq ?_)))))
    apply SW_run
    · simp +decide only [E, reduceIte, Nat.reduceAdd, Nat.reduceMul, L, b1, b2, b3, f5, f6, f7, f8, f9, b10]
      exact Is.mk _
    refine an (rt ?_)
    cases h
    simp [Ret, b1, b2, b3, f5, f6, f7, f8, f9, b10]
  replace h := ite_t b10 h
  refine SW_ct (by simp +decide only [F, reduceIte, Nat.reduceAdd, b1, b2, b3, f5, f6, f7, f8, f9, b10]) ?_
  refine sk (an (sq (bk (sq ?_))))
  obtain ⟨x11, h12, h⟩ := bind_some h
  obtain ⟨q13, q14, q15⟩ := idx_some h12
  obtain ⟨x16, h17, h⟩ := bind_some h
  obtain ⟨q18, q19, q20⟩ := idx_some h17
  rcases bcase (!((x11.Key.Kind == x16.Key.Kind) && ((x11.Key.N == x16.Key.N) && (x11.Key.Text.toList == x16.Key.Text.toList)))) with b21 | b21
  · replace h := ite_t b21 h
    apply SW_runD mixed
    · simp +decide only [E, reduceIte, Nat.reduceAdd, Nat.reduceMul, L, ti58, ti60, ti203, ti208, M.Item.en, b1, b2, b3, f5, f6, f7, f8, f9, b10, q13, q14, q15, q18, q19, q20, b21]
      exact ⟨.mk (by decide +kernel), Is.mk _⟩
    refine an ?_
    refine SW_ct (by simp +decide only [F, reduceIte, Nat.reduceAdd, b1, b2, b3, f5, f6, f7, f8, f9, b10, q13, q14, q15, q18, q19, q20, b21]) ?_
    refine sq ?_
    apply SW_run
    · simp +decide only [E, reduceIte, Nat.reduceAdd, Nat.reduceMul, L, b1, b2, b3, f5, f6, f7, f8, f9, b10, q13, q14, q15, q18, q19, q20, b21]
      exact Is.mk _
    refine an (rt ?_)
    cases h
    simp [Ret, b1, b2, b3, f5, f6, f7, f8, f9, b10, q13, q14, q15, q18, q19, q20, b21]
  replace h := ite_f b21 h
  obtain ⟨x22, h23, h⟩ := bind_some h
  apply SW_runD mixed
  · simp +decide only [E, reduceIte, Nat.reduceAdd, Nat.reduceMul, L, ti58, ti60, ti203, ti206, ti208, M.Item.en, b1, b2, b3, f5, f6, f7, f8, f9, b10, q13, q14, q15, q18, q19, q20, b21]
    refine ⟨_, c_spec_EqualRecords x11.Record x16.Record x22 h23, ?_⟩
    try simp +decide only [E, reduceIte, Nat.reduceAdd, Nat.reduceMul, L, ti58, ti60, ti203, ti206, ti208, M.Item.en, b1, b2, b3, f5, f6, f7, f8, f9, b10, q13, q14, q15, q18, q19, q20, b21]
    exact ⟨.mk (by decide +kernel), Is.mk _⟩
  refine an ?_
  rcases bcase (!x22) with b24 | b24
  · replace h := ite_t b24 h
    refine SW_ct (by simp +decide only [F, reduceIte, Nat.reduceAdd, b1, b2, b3, f5, f6, f7, f8, f9, b10, q13, q14, q15, q18, q19, q20, b21, b24]) ?_
    refine sq ?_
    apply SW_run
    · simp +decide only [E, reduceIte, Nat.reduceAdd, Nat.reduceMul, L, b1, b2, b3, f5, f6, f7, f8, f9, b10, q13, q14, q15, q18, q19, q20, b21, b24]
      exact Is.mk _
    refine an (rt ?_)
    cases h
    simp [Ret, b1, b2, b3, f5, f6, f7, f8, f9, b10, q13, q14, q15, q18, q19, q20, b21, b24]
  replace h := ite_f b24 h
  refine SW_cf (by simp +decide only [F, reduceIte, Nat.reduceAdd, b1, b2, b3, f5, f6, f7, f8, f9, b10, q13, q14, q15, q18, q19, q20, b21, b24]) ?_
  refine sk (ab (an ?_))
  apply SW_run
  · simp +decide only [E, reduceIte, Nat.reduceAdd, Nat.reduceMul, L, b1, b2, b3, f5, f6, f7, f8, f9, b10, q13, q14, q15, q18, q19, q20, b21, b24]
    exact Is.mk _
  refine aft_i ⟨mL1, by omega, (IntKind.i64.wrap (v5 + 1)), ?_, ?_, ?_, ?_, ?_, h⟩
  all_goals simp +decide only [F, reduceIte, Nat.reduceAdd, b1, b2, b3, f5, f6, f7, f8, f9, b10, q13, q14, q15, q18, q19, q20, b21, b24]

set_option maxHeartbeats 4000000 in
theorem c_spec_EqualDatabases (p0 : M.Database) (p1 : M.Database) (r : Bool) (h : m_spec_EqualDatabases p0 p1 = some r) : SCalls Tryz.prog 137 [(true, M.Database.en p0), (true, M.Database.en p1)] [(false, [.ro (.bool r)])] := by
  unfold m_spec_EqualDatabases at h
  simp only [M.Database.en]
  refine scalls_n (N := 74) (vars := [.tmp 4]) Tryz.func137 rfl rfl rfl (by decide +kernel) (Nat.le_of_ble_eq_true rfl) fun base wd => ?_
  refine sq ?_
  apply SW_run
  · simp +decide only [E, reduceIte, Nat.reduceAdd, Nat.reduceMul, L]
    exact Is.mk _
  refine an (sq (sq ?_))
  rcases bcase (!(p0.Name.toList == p1.Name.toList)) with b1 | b1
  · replace h := ite_t b1 h
    apply SW_run
    · simp +decide only [E, reduceIte, Nat.reduceAdd, Nat.reduceMul, L, ti9, ti55, b1]
      exact Is.mk _
    refine an ?_
    refine SW_ct (by simp +decide only [F, reduceIte, Nat.reduceAdd, b1]) ?_
    refine sq ?_
    apply SW_run
    · simp +decide only [E, reduceIte, Nat.reduceAdd, Nat.reduceMul, L, b1]
      exact Is.mk _
    refine an (rt ?_)
    cases h
    simp [Ret, b1]
  replace h := ite_f b1 h
  rcases bcase (p0.Version != p1.Version) with b2 | b2
  · replace h := ite_t b2 h
    apply SW_run
    · simp +decide only [E, reduceIte, Nat.reduceAdd, Nat.reduceMul, L, ti3, ti9, ti55, b1, b2]
      exact Is.mk _
    refine an ?_
    refine SW_ct (by simp +decide only [F, reduceIte, Nat.reduceAdd, b1, b2]) ?_
    refine sq ?_
    apply SW_run
    · simp +decide only [E, reduceIte, Nat.reduceAdd, Nat.reduceMul, L, b1, b2]
      exact Is.mk _
    refine an (rt ?_)
    cases h
    simp [Ret, b1, b2]
  replace h := ite_f b2 h
  rcases bcase ((List.length p0.Stores : Int) != (List.length p1.Stores : Int)) with b3 | b3
  · replace h := ite_t b3 h
    apply SW_run
    · simp +decide only [E, reduceIte, Nat.reduceAdd, Nat.reduceMul, L, ti3, ti9, ti52, ti55, b1, b2, b3]
      exact Is.mk _
    refine an ?_
    refine SW_ct (by simp +decide only [F, reduceIte, Nat.reduceAdd, b1, b2, b3]) ?_
    refine sq ?_
    apply SW_run
    · simp +decide only [E, reduceIte, Nat.reduceAdd, Nat.reduceMul, L, b1, b2, b3]
      exact Is.mk _
    refine an (rt ?_)
    cases h
    simp [Ret, b1, b2, b3]
  replace h := ite_f b3 h
  apply SW_run
  · simp +decide only [E, reduceIte, Nat.reduceAdd, Nat.reduceMul, L, ti3, ti9, ti52, ti53, ti55, b1, b2, b3]
    exact Is.mk _
  refine an ?_
  rcases bcase ((List.length p0.Unique : Int) != (List.length p1.Unique : Int)) with b4 | b4
  · replace h := ite_t b4 h
    refine SW_ct (by simp +decide only [F, reduceIte, Nat.reduceAdd, b1, b2, b3, b4]) ?_
    refine sq ?_
    apply SW_run
    · simp +decide only [E, reduceIte, Nat.reduceAdd, Nat.reduceMul, L, b1, b2, b3, b4]
      exact Is.mk _
    refine an (rt ?_)
    cases h
    simp [Ret, b1, b2, b3, b4]
  replace h := ite_f b4 h
  refine SW_cf (by simp +decide only [F, reduceIte, Nat.reduceAdd, b1, b2, b3, b4]) ?_
  refine sk (an (sq (sq ?_)))
  apply SW_run
  · simp +decide only [E, reduceIte, Nat.reduceAdd, Nat.reduceMul, L, b1, b2, b3, b4]
    exact Is.mk _
  refine an (bk ?_)
  refine SW_loop (fun m s => ∃ v5 : Int, s.t 2 = .v false [.bp 2 1 0] ∧ s.t 3 = .v false [.bp 3 1 0] ∧ s.t 5 = .v false [.dat (.int .i64 v5)] ∧ s.h 2 = (1, .box 55 [.dat (.str p0.Name), .dat (.int .i64 p0.Version), .dat (.sl (List.map M.Store.en p0.Stores)), .dat (.sl (List.map M.IndexDef.en p0.Unique))]) ∧ s.h 3 = (1, .box 55 [.dat (.str p1.Name), .dat (.int .i64 p1.Version), .dat (.sl (List.map M.Store.en p1.Stores)), .dat (.sl (List.map M.IndexDef.en p1.Unique))]) ∧ m_spec_EqualDatabases_L1 p0 p1 m v5 = some r) fuel ?_ ?_
  · refine ⟨0, ?_, ?_, ?_, ?_, ?_, h⟩
    all_goals simp +decide only [F, reduceIte, Nat.reduceAdd, b1, b2, b3, b4]
  rintro mL1 s5 ⟨v5, f6, f7, f8, f9, f10, h⟩
  rcases mL1 with _ | mL1
  · exact absurd h (by simp [m_spec_EqualDatabases_L1])
  simp only [m_spec_EqualDatabases_L1] at h
  refine sq (sq ?_)
  apply SW_run
  · simp +decide only [E, reduceIte, Nat.reduceAdd, Nat.reduceMul, L, ti52, ti55, b1, b2, b3, b4, f6, f7, f8, f9, f10]
    exact Is.mk _
  refine an ?_
  rcases bcase (decide (v5 < (List.length p0.Stores : Int))) with b11 | b11
  · replace h := ite_t b11 h
    refine SW_ct (by simp +decide only [F, reduceIte, Nat.reduceAdd, b1, b2, b3, b4, f6, f7, f8, f9, f10, b11]) ?_
    refine sk (an (sq (bk (sq ?_))))
    obtain ⟨x12, h13, h⟩ := bind_some h
    obtain ⟨q14, q15, q16⟩ := idx_some h13
    obtain ⟨x17, h18, h⟩ := bind_some h
    obtain ⟨q19, q20, q21⟩ := idx_some h18
    obtain ⟨x22, h23, h⟩ := bind_some h
    apply SW_runD mixed
    · simp +decide only [E, reduceIte, Nat.reduceAdd, Nat.reduceMul, L, ti52, ti55, ti60, M.Store.en, b1, b2, b3, b4, f6, f7, f8, f9, f10, b11, q14, q15, q16, q19, q20, q21]
      refine ⟨_, c_spec_EqualStores x12 x17 x22 h23, ?_⟩
      try simp +decide only [E, reduceIte, Nat.reduceAdd, Nat.reduceMul, L, ti52, ti55, ti60, M.Store.en, b1, b2, b3, b4, f6, f7, f8, f9, f10, b11, q14, q15, q16, q19, q20, q21]
      exact ⟨.mk (by decide +kernel), Is.mk _⟩
    refine an ?_
    rcases bcase (!x22) with b24 | b24
    · replace h := ite_t b24 h
      refine SW_ct (by simp +decide only [F, reduceIte, Nat.reduceAdd, b1, b2, b3, b4, f6, f7, f8, f9, f10, b11, q14, q15, q16, q19, q20, q21, b24]) ?_
      refine sq ?_
      apply SW_run
      · simp +decide only [E, reduceIte, Nat.reduceAdd, Nat.reduceMul, L, b1, b2, b3, b4, f6, f7, f8, f9, f10, b11, q14, q15, q16, q19, q20, q21, b24]
        exact Is.mk _
      refine an (rt ?_)
      cases h
      simp [Ret, b1, b2, b3, b4, f6, f7, f8, f9, f10, b11, q14, q15, q16, q19, q20, q21, b24]
    replace h := ite_f b24 h
    refine SW_cf (by simp +decide only [F, reduceIte, Nat.reduceAdd, b1, b2, b3, b4, f6, f7, f8, f9, f10, b11, q14, q15, q16, q19, q20, q21, b24]) ?_
    refine sk (ab (an ?_))
    apply SW_run
    · simp +decide only [E, reduceIte, Nat.reduceAdd, Nat.reduceMul, L, b1, b2, b3, b4, f6, f7, f8, f9, f10, b11, q14, q15, q16, q19, q20, q21, b24]
      exact Is.mk _
    refine aft_i ⟨mL1, by omega, (IntKind.i64.wrap (v5 + 1)), ?_, ?_, ?_, ?_, ?_, h⟩
    all_goals simp +decide only [F, reduceIte, Nat.reduceAdd, b1, b2, b3, b4, f6, f7, f8, f9, f10, b11, q14, q15, q16, q19, q20, q21, b24]
  replace h := ite_f b11 h
  refine SW_cf (by simp +decide only [F, reduceIte, Nat.reduceAdd, b1, b2, b3, b4, f6, f7, f8, f9, f10, b11]) ?_
  refine xt (aft_cx (aft_ix (aft_x (an (sq (sq ?_))))))
  apply SW_run
  · simp +decide only [E, reduceIte, Nat.reduceAdd, Nat.reduceMul, L, b1, b2, b3, b4, f6, f7, f8, f9, f10, b11]
    exact Is.mk _
  refine an (bk ?_)
  refine SW_loop (fun m s => ∃ v6 : Int, s.t 2 = .v false [.bp 2 1 0] ∧ s.t 3 = .v false [.bp 3 1 0] ∧ s.t 6 = .v false [.dat (.int .i64 v6)] ∧ s.h 2 = (1, .box 55 [.dat (.str p0.Name), .dat (.int .i64 p0.Version), .dat (.sl (List.map M.Store.en p0.Stores)), .dat (.sl (List.map M.IndexDef.en p0.Unique))]) ∧ s.h 3 = (1, .box 55 [.dat (.str p1.Name), .dat (.int .i64 p1.Version), .dat (.sl (List.map M.Store.en p1.Stores)), .dat (.sl (List.map M.IndexDef.en p1.Unique))]) ∧ m_spec_EqualDatabases_L2 p0 p1 m v6 = some r) fuel ?_ ?_
  · refine ⟨0, ?_, ?_, ?_, ?_, ?_, h⟩
    all_goals simp +decide only [F, reduceIte, Nat.reduceAdd, b1, b2, b3, b4, f6, f7, f8, f9, f10, b11]
  rintro mL2 s25 ⟨v6, f26, f27, f28, f29, f30, h⟩
  rcases mL2 with _ | mL2
  · exact absurd h (by simp [m_spec_EqualDatabases_L2])
  simp only [m_spec_EqualDatabases_L2] at h
  refine sq (sq ?_)
  apply SW_run
  · simp +decide only [E, reduceIte, Nat.reduceAdd, Nat.reduceMul, L, ti53, ti55, b1, b2, b3, b4, b11, f26, f27, f28, f29, f30]
    exact Is.mk _
  refine an ?_
  rcases bcas (decide (v6 < (List.length p0.Unique : Int))) with b31 | b31
  · replace h := ite_f b31 h
    refine SW_cf (by simp +decide only [F, reduceIte, Nat.reduceAdd, b1, b2, b3, b4, b11, f26, f27, f28, f29, f30, b31]) ?_
    refine xt (aft_cx (aft_ix (aft_x (an (sq ?_)))))
    apply SW_run
    · simp +decide only [E, reduceIte, Nat.reduceAdd, Nat.reduceMul, L, b1, b2, b3, b4, b11, f26, f27, f28, f29, f30, b31]
      exact Is.mk _
    refine an (rt ?_)
    cases h
    simp [Ret, b1, b2, b3, b4, b11, f26, f27, f28, f29, f30, b31]
  replace h := ite_t b31 h
  refine SW_ct (by simp +decide only [F, reduceIte, Nat.reduceAdd, b1, b2, b3, b4, b11, f26, f27, f28, f29, f30, b31]) ?_
  refine sk (an (sq (bk (sq ?_))))
  obtain ⟨x32, h33, h⟩ := bind_some h
  obtain ⟨q34, q35, q36⟩ := idx_some h33
  obtain ⟨x37, h38, h⟩ := bind_some h
  obtain ⟨q39, q40, q41⟩ := idx_some h38
  apply SW_runD mixed
  · simp +decide only [E, reduceIte, Nat.reduceAdd, Nat.reduceMul, L, ti53, ti55, ti225, M.IndexDef.en, b1, b2, b3, b4, b11, f26, f27, f28, f29, f30, b31, q34, q35, q36, q39, q40, q41]
    exact ⟨.mk (by decide +kernel), Is.mk _⟩
  refine an ?_
  rcases bcase (!((x32.Store.toList == x37.Store.toList) && (x32.Field.toList == x37.Field.toList))) with b42 | b42
  · replace h := ite_t b42 h
    refine SW_ct (by simp +decide only [F, reduceIte, Nat.reduceAdd, b1, b2, b3, b4, b11, f26, f27, f28, f29, f30, b31, q34, q35, q36, q39, q40, q41, b42]) ?_
    refine sq ?_
    apply SW_run
    · simp +decide only [E, reduceIte, Nat.reduceAdd, Nat.reduceMul, L, b1, b2, b3, b4, b11, f26, f27, f28, f29, f30, b31, q34, q35, q36, q39, q40, q41, b42]
      exact Is.mk _
    refine an (rt ?_)
    cases h
    simp [Ret, b1, b2, b3, b4, b11, f26, f27, f28, f29, f30, b31, q34, q35, q36, q39, q40, q41, b42]
  replace h := ite_f b42 h
  refine SW_cf (by simp +decide only [F, reduceIte, Nat.reduceAdd, b1, b2, b3, b4, b11, f26, f27, f28, f29, f30, b31, q34, q35, q36, q39, q40, q41, b42]) ?_
  refine sk (ab (an ?_))
  apply SW_run
  · simp +decide only [E, reduceIte, Nat.reduceAdd, Nat.reduceMul, L, b1, b2, b3, b4, b11, f26, f27, f28, f29, f30, b31, q34, q35, q36, q39, q40, q41, b42]
    exact Is.mk _
  refine aft_i ⟨mL2, by omega, (IntKind.i64.wrap (v6 + 1)), ?_, ?_, ?_, ?_, ?_, h⟩
  all_goals simp +decide only [F, reduceIte, Nat.reduceAdd, b1, b2, b3, b4, b11, f26, f27, f28, f29, f30, b31, q34, q35, q36, q39, q40, q41, b42]

set_option maxHeartbeats 4000000 in
theorem c_spec_EqualDisks (p0 : M.Disk) (p1 : M.Disk) (r : Bool) (h : m_spec_EqualDisks p0 p1 = some r) : SCalls Tryz.prog 61 [(true, M.Disk.en p0), (true, M.Disk.en p1)] [(false, [.ro (.bool r)])] := by
  unfold m_spec_EqualDisks at h
  simp only [M.Disk.en]
  refine scalls_n (N := 24) (vars := [.tmp 4]) Tryz.func61 rfl rfl rfl (by decide +kernel) (Nat.le_of_ble_eq_true rfl) fun base wd => ?_
  refine sq ?_
  apply SW_run
  · simp +decide only [E, reduceIte, Nat.reduceAdd, Nat.reduceMul, L]
    exact Is.mk _
  refine an (sq ?_)
  obtain ⟨x1, h2, h⟩ := bind_some h
  rcases bcas x1 with b3 | b3
  · replace h := ite_f b3 h
    apply SW_run
    · simp +decide only [E, reduceIte, Nat.reduceAdd, Nat.reduceMul, L, ti55, ti57, b3]
      refine ⟨_, c_spec_EqualDatabases p0.Base p1.Base x1 h2, ?_⟩
      try simp +decide only [E, reduceIte, Nat.reduceAdd, Nat.reduceMul, L, ti55, ti57, b3]
      exact Is.mk _
    refine an (rt ?_)
    cases h
    simp [Ret, b3]
  replace h := ite_t b3 h
  obtain ⟨x4, h5, h⟩ := bind_some h
  rcases bcas x4 with b6 | b6
  · replace h := ite_f b6 h
    apply SW_run
    · simp +decide only [E, reduceIte, Nat.reduceAdd, Nat.reduceMul, L, ti31, ti55, ti57, b3, b6]
      refine ⟨_, c_spec_EqualDatabases p0.Base p1.Base x1 h2, ?_⟩
      try simp +decide only [E, reduceIte, Nat.reduceAdd, Nat.reduceMul, L, ti31, ti55, ti57, b3, b6]
      refine ⟨_, c_spec_EqualBytes p0.Log p1.Log x4 h5, ?_⟩
      try simp +decide only [E, reduceIte, Nat.reduceAdd, Nat.reduceMul, L, ti31, ti55, ti57, b3, b6]
      exact Is.mk _
    refine an (rt ?_)
    cases h
    simp [Ret, b3, b6]
  replace h := ite_t b6 h
  apply SW_run
  · simp +decide only [E, reduceIte, Nat.reduceAdd, Nat.reduceMul, L, ti3, ti31, ti55, ti57, b3, b6]
    refine ⟨_, c_spec_EqualDatabases p0.Base p1.Base x1 h2, ?_⟩
    try simp +decide only [E, reduceIte, Nat.reduceAdd, Nat.reduceMul, L, ti3, ti31, ti55, ti57, b3, b6]
    refine ⟨_, c_spec_EqualBytes p0.Log p1.Log x4 h5, ?_⟩
    try simp +decide only [E, reduceIte, Nat.reduceAdd, Nat.reduceMul, L, ti3, ti31, ti55, ti57, b3, b6]
    exact Is.mk _
  refine an (rt ?_)
  cases h
  simp [Ret, b3, b6]

set_option maxHeartbeats 4000000 in
theorem c_spec_EqualOutboxes (p0 : M.Outbox) (p1 : M.Outbox) (r : Bool) (h : m_spec_EqualOutboxes p0 p1 = some r) : SCalls Tryz.prog 217 [(true, M.Outbox.en p0), (true, M.Outbox.en p1)] [(false, [.ro (.bool r)])] := by
  unfold m_spec_EqualOutboxes at h
  simp only [M.Outbox.en]
  refine scalls_n (N := 45) (vars := [.tmp 4]) Tryz.func217 rfl rfl rfl (by decide +kernel) (Nat.le_of_ble_eq_true rfl) fun base wd => ?_
  refine sq ?_
  apply SW_run
  · simp +decide only [E, reduceIte, Nat.reduceAdd, Nat.reduceMul, L]
    exact Is.mk _
  refine an (sq (sq ?_))
  rcases bcase (p0.Device != p1.Device) with b1 | b1
  · replace h := ite_t b1 h
    apply SW_run
    · simp +decide only [E, reduceIte, Nat.reduceAdd, Nat.reduceMul, L, ti3, ti63, b1]
      exact Is.mk _
    refine an ?_
    refine SW_ct (by simp +decide only [F, reduceIte, Nat.reduceAdd, b1]) ?_
    refine sq ?_
    apply SW_run
    · simp +decide only [E, reduceIte, Nat.reduceAdd, Nat.reduceMul, L, b1]
      exact Is.mk _
    refine an (rt ?_)
    cases h
    simp [Ret, b1]
  replace h := ite_f b1 h
  rcases bcase (p0.Next != p1.Next) with b2 | b2
  · replace h := ite_t b2 h
    apply SW_run
    · simp +decide only [E, reduceIte, Nat.reduceAdd, Nat.reduceMul, L, ti3, ti63, b1, b2]
      exact Is.mk _
    refine an ?_
    refine SW_ct (by simp +decide only [F, reduceIte, Nat.reduceAdd, b1, b2]) ?_
    refine sq ?_
    apply SW_run
    · simp +decide only [E, reduceIte, Nat.reduceAdd, Nat.reduceMul, L, b1, b2]
      exact Is.mk _
    refine an (rt ?_)
    cases h
    simp [Ret, b1, b2]
  replace h := ite_f b2 h
  apply SW_run
  · simp +decide only [E, reduceIte, Nat.reduceAdd, Nat.reduceMul, L, ti3, ti61, ti63, b1, b2]
    exact Is.mk _
  refine an ?_
  rcases bcase ((List.length p0.Writes : Int) != (List.length p1.Writes : Int)) with b3 | b3
  · replace h := ite_t b3 h
    refine SW_ct (by simp +decide only [F, reduceIte, Nat.reduceAdd, b1, b2, b3]) ?_
    refine sq ?_
    apply SW_run
    · simp +decide only [E, reduceIte, Nat.reduceAdd, Nat.reduceMul, L, b1, b2, b3]
      exact Is.mk _
    refine an (rt ?_)
    cases h
    simp [Ret, b1, b2, b3]
  replace h := ite_f b3 h
  refine SW_cf (by simp +decide only [F, reduceIte, Nat.reduceAdd, b1, b2, b3]) ?_
  refine sk (an (sq (sq ?_)))
  apply SW_run
  · simp +decide only [E, reduceIte, Nat.reduceAdd, Nat.reduceMul, L, b1, b2, b3]
    exact Is.mk _
  refine an (bk ?_)
  refine SW_loop (fun m s => ∃ v5 : Int, s.t 2 = .v false [.bp 2 1 0] ∧ s.t 3 = .v false [.bp 3 1 0] ∧ s.t 5 = .v false [.dat (.int .i64 v5)] ∧ s.h 2 = (1, .box 63 [.dat (.int .i64 p0.Device), .dat (.int .i64 p0.Next), .dat (.sl (List.map M.Write.en p0.Writes))]) ∧ s.h 3 = (1, .box 63 [.dat (.int .i64 p1.Device), .dat (.int .i64 p1.Next), .dat (.sl (List.map M.Write.en p1.Writes))]) ∧ m_spec_EqualOutboxes_L1 p0 p1 m v5 = some r) fuel ?_ ?_
  · refine ⟨0, ?_, ?_, ?_, ?_, ?_, h⟩
    all_goals simp +decide only [F, reduceIte, Nat.reduceAdd, b1, b2, b3]
  rintro mL1 s4 ⟨v5, f5, f6, f7, f8, f9, h⟩
  rcases mL1 with _ | mL1
  · exact absurd h (by simp [m_spec_EqualOutboxes_L1])
  simp only [m_spec_EqualOutboxes_L1] at h
  refine sq (sq ?_)
  apply SW_run
  · simp +decide only [E, reduceIte, Nat.reduceAdd, Nat.reduceMul, L, ti61, ti63, b1, b2, b3, f5, f6, f7, f8, f9]
    exact Is.mk _
  refine an ?_
  rcases bcas (decide (v5 < (List.length p0.Writes : Int))) with b10 | b10
  · replace h := ite_f b10 h
    refine SW_cf (by simp +decide only [F, reduceIte, Nat.reduceAdd, b1, b2, b3, f5, f6, f7, f8, f9, b10]) ?_
    refine xt (aft_cx (aft_ix (aft_x (an (sq ?_)))))
    apply SW_run
    · simp +decide only [E, reduceIte, Nat.reduceAdd, Nat.reduceMul, L, b1, b2, b3, f5, f6, f7, f8, f9, b10]
      exact Is.mk _
    refine an (rt ?_)
    cases h
    simp [Ret, b1, b2, b3, f5, f6, f7, f8, f9, b10]
  replace h := ite_t b10 h
  refine SW_ct (by simp +decide only [F, reduceIte, Nat.reduceAdd, b1, b2, b3, f5, f6, f7, f8, f9, b10]) ?_
  refine sk (an (sq (bk (sq ?_))))
  obtain ⟨x11, h12, h⟩ := bind_some h
  obtain ⟨q13, q14, q15⟩ := idx_some h12
  obtain ⟨x16, h17, h⟩ := bind_some h
  obtain ⟨q18, q19, q20⟩ := idx_some h17
  apply SW_runD mixed
  · simp +decide only [E, reduceIte, Nat.reduceAdd, Nat.reduceMul, L, ti61, ti63, ti285, M.Write.en, b1, b2, b3, f5, f6, f7, f8, f9, b10, q13, q14, q15, q18, q19, q20]
    exact ⟨.mk (by decide +kernel), Is.mk _⟩
  refine an ?_
  rcases bcase (!((x11.Device == x16.Device) && ((x11.Seq == x16.Seq) && ((x11.Key.Kind == x16.Key.Kind) && ((x11.Key.N == x16.Key.N) && ((x11.Key.Text.toList == x16.Key.Text.toList) && ((x11.Field.toList == x16.Field.toList) && (x11.N == x16.N)))))))) with b21 | b21
  · replace h := ite_t b21 h
    refine SW_ct (by simp +decide only [F, reduceIte, Nat.reduceAdd, b1, b2, b3, f5, f6, f7, f8, f9, b10, q13, q14, q15, q18, q19, q20, b21]) ?_
    refine sq ?_
    apply SW_run
    · simp +decide only [E, reduceIte, Nat.reduceAdd, Nat.reduceMul, L, b1, b2, b3, f5, f6, f7, f8, f9, b10, q13, q14, q15, q18, q19, q20, b21]
      exact Is.mk _
    refine an (rt ?_)
    cases h
    simp [Ret, b1, b2, b3, f5, f6, f7, f8, f9, b10, q13, q14, q15, q18, q19, q20, b21]
  replace h := ite_f b21 h
  refine SW_cf (by simp +decide only [F, reduceIte, Nat.reduceAdd, b1, b2, b3, f5, f6, f7, f8, f9, b10, q13, q14, q15, q18, q19, q20, b21]) ?_
  refine sk (ab (an ?_))
  apply SW_run
  · simp +decide only [E, reduceIte, Nat.reduceAdd, Nat.reduceMul, L, b1, b2, b3, f5, f6, f7, f8, f9, b10, q13, q14, q15, q18, q19, q20, b21]
    exact Is.mk _
  refine aft_i ⟨mL1, by omega, (IntKind.i64.wrap (v5 + 1)), ?_, ?_, ?_, ?_, ?_, h⟩
  all_goals simp +decide only [F, reduceIte, Nat.reduceAdd, b1, b2, b3, f5, f6, f7, f8, f9, b10, q13, q14, q15, q18, q19, q20, b21]

set_option maxHeartbeats 4000000 in
theorem c_spec_EqualSyncs (p0 : M.Sync) (p1 : M.Sync) (r : Bool) (h : m_spec_EqualSyncs p0 p1 = some r) : SCalls Tryz.prog 140 [(true, M.Sync.en p0), (true, M.Sync.en p1)] [(false, [.ro (.bool r)])] := by
  unfold m_spec_EqualSyncs at h
  simp only [M.Sync.en]
  refine scalls_n (N := 24) (vars := [.tmp 4]) Tryz.func140 rfl rfl rfl (by decide +kernel) (Nat.le_of_ble_eq_true rfl) fun base wd => ?_
  refine sq ?_
  apply SW_run
  · simp +decide only [E, reduceIte, Nat.reduceAdd, Nat.reduceMul, L]
    exact Is.mk _
  refine an (sq ?_)
  obtain ⟨x1, h2, h⟩ := bind_some h
  rcases bcas x1 with b3 | b3
  · replace h := ite_f b3 h
    apply SW_run
    · simp +decide only [E, reduceIte, Nat.reduceAdd, Nat.reduceMul, L, ti63, ti65, b3]
      refine ⟨_, c_spec_EqualOutboxes p0.Outbox p1.Outbox x1 h2, ?_⟩
      try simp +decide only [E, reduceIte, Nat.reduceAdd, Nat.reduceMul, L, ti63, ti65, b3]
      exact Is.mk _
    refine an (rt ?_)
    cases h
    simp [Ret, b3]
  replace h := ite_t b3 h
  rcases bcase (p0.Tries == p1.Tries) with b4 | b4
  · replace h := ite_t b4 h
    apply SW_run
    · simp +decide only [E, reduceIte, Nat.reduceAdd, Nat.reduceMul, L, ti3, ti63, ti65, b3, b4]
      refine ⟨_, c_spec_EqualOutboxes p0.Outbox p1.Outbox x1 h2, ?_⟩
      try simp +decide only [E, reduceIte, Nat.reduceAdd, Nat.reduceMul, L, ti3, ti63, ti65, b3, b4]
      exact Is.mk _
    refine an (rt ?_)
    cases h
    simp [Ret, b3, b4]
  replace h := ite_f b4 h
  apply SW_run
  · simp +decide only [E, reduceIte, Nat.reduceAdd, Nat.reduceMul, L, ti3, ti63, ti65, b3, b4]
    refine ⟨_, c_spec_EqualOutboxes p0.Outbox p1.Outbox x1 h2, ?_⟩
    try simp +decide only [E, reduceIte, Nat.reduceAdd, Nat.reduceMul, L, ti3, ti63, ti65, b3, b4]
    exact Is.mk _
  refine an (rt ?_)
  cases h
  simp [Ret, b3, b4]

set_option maxHeartbeats 4000000 in
theorem c_spec_EqualReplicas (p0 : M.Replica) (p1 : M.Replica) (r : Bool) (h : m_spec_EqualReplicas p0 p1 = some r) : SCalls Tryz.prog 62 [(true, M.Replica.en p0), (true, M.Replica.en p1)] [(false, [.ro (.bool r)])] := by
  unfold m_spec_EqualReplicas at h
  simp only [M.Replica.en]
  refine scalls_n (N := 24) (vars := [.tmp 4]) Tryz.func62 rfl rfl rfl (by decide +kernel) (Nat.le_of_ble_eq_true rfl) fun base wd => ?_
  refine sq ?_
  apply SW_run
  · simp +decide only [E, reduceIte, Nat.reduceAdd, Nat.reduceMul, L]
    exact Is.mk _
  refine an (sq ?_)
  obtain ⟨x1, h2, h⟩ := bind_some h
  rcases bcas x1 with b3 | b3
  · replace h := ite_f b3 h
    apply SW_run
    · simp +decide only [E, reduceIte, Nat.reduceAdd, Nat.reduceMul, L, ti60, ti67, b3]
      refine ⟨_, c_spec_EqualStores p0.Base p1.Base x1 h2, ?_⟩
      try simp +decide only [E, reduceIte, Nat.reduceAdd, Nat.reduceMul, L, ti60, ti67, b3]
      exact Is.mk _
    refine an (rt ?_)
    cases h
    simp [Ret, b3]
  replace h := ite_t b3 h
  rcases bcas (p0.Seen == p1.Seen) with b4 | b4
  · replace h := ite_f b4 h
    apply SW_run
    · simp +decide only [E, reduceIte, Nat.reduceAdd, Nat.reduceMul, L, ti3, ti60, ti67, b3, b4]
      refine ⟨_, c_spec_EqualStores p0.Base p1.Base x1 h2, ?_⟩
      try simp +decide only [E, reduceIte, Nat.reduceAdd, Nat.reduceMul, L, ti3, ti60, ti67, b3, b4]
      exact Is.mk _
    refine an (rt ?_)
    cases h
    simp [Ret, b3, b4]
  replace h := ite_t b4 h
  obtain ⟨x5, h6, h⟩ := bind_some h
  apply SW_run
  · simp +decide only [E, reduceIte, Nat.reduceAdd, Nat.reduceMul, L, ti3, ti60, ti65, ti67, b3, b4]
    refine ⟨_, c_spec_EqualStores p0.Base p1.Base x1 h2, ?_⟩
    try simp +decide only [E, reduceIte, Nat.reduceAdd, Nat.reduceMul, L, ti3, ti60, ti65, ti67, b3, b4]
    refine ⟨_, c_spec_EqualSyncs p0.Sync p1.Sync x5 h6, ?_⟩
    try simp +decide only [E, reduceIte, Nat.reduceAdd, Nat.reduceMul, L, ti3, ti60, ti65, ti67, b3, b4]
    exact Is.mk _
  refine an (rt ?_)
  cases h
  simp [Ret, b3, b4]

set_option maxHeartbeats 4000000 in
theorem c_spec_EqualBuckets (p0 : M.Bucket) (p1 : M.Bucket) (r : Bool) (h : m_spec_EqualBuckets p0 p1 = some r) : SCalls Tryz.prog 15 [(true, M.Bucket.en p0), (true, M.Bucket.en p1)] [(false, [.ro (.bool r)])] := by
  unfold m_spec_EqualBuckets at h
  simp only [M.Bucket.en]
  refine scalls_n (N := 59) (vars := [.tmp 4]) Tryz.func15 rfl rfl rfl (by decide +kernel) (Nat.le_of_ble_eq_true rfl) fun base wd => ?_
  refine sq ?_
  apply SW_run
  · simp +decide only [E, reduceIte, Nat.reduceAdd, Nat.reduceMul, L]
    exact Is.mk _
  refine an (sq ?_)
  rcases bcas (p0.Site.toList == p1.Site.toList) with b1 | b1
  · replace h := ite_f b1 h
    apply SW_run
    · simp +decide only [E, reduceIte, Nat.reduceAdd, Nat.reduceMul, L, ti9, ti69, b1]
      exact Is.mk _
    refine an (rt ?_)
    cases h
    simp [Ret, b1]
  replace h := ite_t b1 h
  rcases bcas (p0.Top.toList == p1.Top.toList) with b2 | b2
  · replace h := ite_f b2 h
    apply SW_run
    · simp +decide only [E, reduceIte, Nat.reduceAdd, Nat.reduceMul, L, ti9, ti69, b1, b2]
      exact Is.mk _
    refine an (rt ?_)
    cases h
    simp [Ret, b1, b2]
  replace h := ite_t b2 h
  rcases bcas ((p0.Registration.Site.toList == p1.Registration.Site.toList) && ((p0.Registration.Installing == p1.Registration.Installing) && ((p0.Registration.Waiting == p1.Registration.Waiting) && (p0.Registration.Active == p1.Registration.Active)))) with b3 | b3
  · replace h := ite_f b3 h
    apply SW_run
    · simp +decide only [E, reduceIte, Nat.reduceAdd, Nat.reduceMul, L, ti9, ti48, ti69, b1, b2, b3]
      exact Is.mk _
    refine an (rt ?_)
    cases h
    simp [Ret, b1, b2, b3]
  replace h := ite_t b3 h
  obtain ⟨x4, h5, h⟩ := bind_some h
  rcases bcas x4 with b6 | b6
  · replace h := ite_f b6 h
    apply SW_run
    · simp +decide only [E, reduceIte, Nat.reduceAdd, Nat.reduceMul, L, ti9, ti48, ti51, ti69, b1, b2, b3, b6]
      refine ⟨_, c_spec_EqualCacheSets p0.Caches p1.Caches x4 h5, ?_⟩
      try simp +decide only [E, reduceIte, Nat.reduceAdd, Nat.reduceMul, L, ti9, ti48, ti51, ti69, b1, b2, b3, b6]
      exact Is.mk _
    refine an (rt ?_)
    cases h
    simp [Ret, b1, b2, b3, b6]
  replace h := ite_t b6 h
  obtain ⟨x7, h8, h⟩ := bind_some h
  rcases bcas x7 with b9 | b9
  · replace h := ite_f b9 h
    apply SW_run
    · simp +decide only [E, reduceIte, Nat.reduceAdd, Nat.reduceMul, L, ti9, ti48, ti51, ti57, ti69, b1, b2, b3, b6, b9]
      refine ⟨_, c_spec_EqualCacheSets p0.Caches p1.Caches x4 h5, ?_⟩
      try simp +decide only [E, reduceIte, Nat.reduceAdd, Nat.reduceMul, L, ti9, ti48, ti51, ti57, ti69, b1, b2, b3, b6, b9]
      refine ⟨_, c_spec_EqualDisks p0.Disk p1.Disk x7 h8, ?_⟩
      try simp +decide only [E, reduceIte, Nat.reduceAdd, Nat.reduceMul, L, ti9, ti48, ti51, ti57, ti69, b1, b2, b3, b6, b9]
      exact Is.mk _
    refine an (rt ?_)
    cases h
    simp [Ret, b1, b2, b3, b6, b9]
  replace h := ite_t b9 h
  obtain ⟨x10, h11, h⟩ := bind_some h
  rcases bcas x10 with b12 | b12
  · replace h := ite_f b12 h
    apply SW_run
    · simp +decide only [E, reduceIte, Nat.reduceAdd, Nat.reduceMul, L, ti9, ti48, ti51, ti57, ti67, ti69, b1, b2, b3, b6, b9, b12]
      refine ⟨_, c_spec_EqualCacheSets p0.Caches p1.Caches x4 h5, ?_⟩
      try simp +decide only [E, reduceIte, Nat.reduceAdd, Nat.reduceMul, L, ti9, ti48, ti51, ti57, ti67, ti69, b1, b2, b3, b6, b9, b12]
      refine ⟨_, c_spec_EqualDisks p0.Disk p1.Disk x7 h8, ?_⟩
      try simp +decide only [E, reduceIte, Nat.reduceAdd, Nat.reduceMul, L, ti9, ti48, ti51, ti57, ti67, ti69, b1, b2, b3, b6, b9, b12]
      refine ⟨_, c_spec_EqualReplicas p0.Replica p1.Replica x10 h11, ?_⟩
      try simp +decide only [E, reduceIte, Nat.reduceAdd, Nat.reduceMul, L, ti9, ti48, ti51, ti57, ti67, ti69, b1, b2, b3, b6, b9, b12]
      exact Is.mk _
    refine an (rt ?_)
    cases h
    simp [Ret, b1, b2, b3, b6, b9, b12]
  replace h := ite_t b12 h
  rcases bcas (p0.LastUsed == p1.LastUsed) with b13 | b13
  · replace h := ite_f b13 h
    apply SW_run
    · simp +decide only [E, reduceIte, Nat.reduceAdd, Nat.reduceMul, L, ti3, ti9, ti48, ti51, ti57, ti67, ti69, b1, b2, b3, b6, b9, b12, b13]
      refine ⟨_, c_spec_EqualCacheSets p0.Caches p1.Caches x4 h5, ?_⟩
      try simp +decide only [E, reduceIte, Nat.reduceAdd, Nat.reduceMul, L, ti3, ti9, ti48, ti51, ti57, ti67, ti69, b1, b2, b3, b6, b9, b12, b13]
      refine ⟨_, c_spec_EqualDisks p0.Disk p1.Disk x7 h8, ?_⟩
      try simp +decide only [E, reduceIte, Nat.reduceAdd, Nat.reduceMul, L, ti3, ti9, ti48, ti51, ti57, ti67, ti69, b1, b2, b3, b6, b9, b12, b13]
      refine ⟨_, c_spec_EqualReplicas p0.Replica p1.Replica x10 h11, ?_⟩
      try simp +decide only [E, reduceIte, Nat.reduceAdd, Nat.reduceMul, L, ti3, ti9, ti48, ti51, ti57, ti67, ti69, b1, b2, b3, b6, b9, b12, b13]
      exact Is.mk _
    refine an (rt ?_)
    cases h
    simp [Ret, b1, b2, b3, b6, b9, b12, b13]
  replace h := ite_t b13 h
  apply SW_run
  · simp +decide only [E, reduceIte, Nat.reduceAdd, Nat.reduceMul, L, ti3, ti4, ti9, ti48, ti51, ti57, ti67, ti69, b1, b2, b3, b6, b9, b12, b13]
    refine ⟨_, c_spec_EqualCacheSets p0.Caches p1.Caches x4 h5, ?_⟩
    try simp +decide only [E, reduceIte, Nat.reduceAdd, Nat.reduceMul, L, ti3, ti4, ti9, ti48, ti51, ti57, ti67, ti69, b1, b2, b3, b6, b9, b12, b13]
    refine ⟨_, c_spec_EqualDisks p0.Disk p1.Disk x7 h8, ?_⟩
    try simp +decide only [E, reduceIte, Nat.reduceAdd, Nat.reduceMul, L, ti3, ti4, ti9, ti48, ti51, ti57, ti67, ti69, b1, b2, b3, b6, b9, b12, b13]
    refine ⟨_, c_spec_EqualReplicas p0.Replica p1.Replica x10 h11, ?_⟩
    try simp +decide only [E, reduceIte, Nat.reduceAdd, Nat.reduceMul, L, ti3, ti4, ti9, ti48, ti51, ti57, ti67, ti69, b1, b2, b3, b6, b9, b12, b13]
    exact Is.mk _
  refine an (rt ?_)
  cases h
  simp [Ret, b1, b2, b3, b6, b9, b12, b13]

end Go.Proofs.YtgpiencmneiblaaGreat.gen
