/-
  Helper text: walks: each function's contract out of its model. No conditions beyond those of each contract.
-/
import Derived.Test.YtgpiencmneiblaaFindBucketTi
namespace Go.Proofs.Ytgpiencmneiblaa.gen
open Go Go.Sh
set_option linter.unusedVariables false
set_option linter.unusedSimpArgs false
set_option maxHeartbeats 4000000 in
theorem c_impl_FindBucket_1 (p0 : M.Bucket) (c0 : ByteArray) (c1 : ByteArray) (r : Bool) (h : m_impl_FindBucket_1 p0 c0 c1 = some r) : SCalls Try.prog 12 [(true, M.Bucket.en p0), (false, [.ptr [.str c0]]), (false, [.ptr [.str c1]])] [(false, [.ro (.bool r)])] := by
  unfold m_impl_FindBucket_1 at h
  simp only [M.Bucket.en]
  refine scalls_n (N := 15) (vars := [.tmp 4]) Try.func12 rfl rfl rfl (by decide +kernel) (Nat.le_of_ble_eq_true rfl) fun base wd => ?_
  refine sq ?_
  apply SW_run
  · simp +decide only [E, reduceIte, Nat.reduceAdd, Nat.reduceMul, L]
    exact Is.mk _
  refine an (sq ?_)
  rcases bcase (p0.Site.toList == c0.toList) with b1 | b1
  · replace h := ite_t b1 h
    apply SW_run
    · simp +decide only [E, reduceIte, Nat.reduceAdd, Nat.reduceMul, L, ti9, ti57, b1]
      exact Is.mk _
    refine an (rt ?_)
    cases h
    simp [Ret, b1]
  replace h := ite_f b1 h
  apply SW_run
  · simp +decide only [E, reduceIte, Nat.reduceAdd, Nat.reduceMul, L, ti9, ti57, b1]
    exact Is.mk _
  refine an (rt ?_)
  cases h
  simp [Ret, b1]

set_option maxHeartbeats 4000000 in
theorem c_slices_IndexFunc_Bucket (p0 : List M.Bucket) (p1 : M.Bucket → Option Bool) (f1_ : FuncId) (k1_ : List D) (hp1 : ∀ z0 r, p1 z0 = some r → SCalls Try.prog f1_ ((true, M.Bucket.en z0) ::  k1_.map fun c => (false, [c])) [(false, [.ro (.bool r)])]) (r : Int) (h : m_slices_IndexFunc_Bucket p0 p1 = some r) : SCalls Try.prog 11 [(false, [.sl (List.map M.Bucket.en p0)]), (false, [.fn f1_ k1_])] [(false, [.ro (.int .i64 r)])] := by
  unfold m_slices_IndexFunc_Bucket at h
  refine scalls_n (N := 19) (vars := [.tmp 4]) Try.func11 rfl rfl rfl (by decide +kernel) (Nat.le_of_ble_eq_true rfl) fun base wd => ?_
  refine sq ?_
  apply SW_run
  · simp +decide only [E, reduceIte, Nat.reduceAdd, Nat.reduceMul, L]
    exact Is.mk _
  refine an (sq (sq ?_))
  apply SW_run
  · simp +decide only [E, reduceIte, Nat.reduceAdd, Nat.reduceMul, L, ti27]
    exact Is.mk _
  refine an (bk ?_)
  refine SW_loop (fun m s => ∃ v8 : Int, s.t 0 = .v false [.dat (.sl (List.map M.Bucket.en p0))] ∧ s.t 1 = .v false [.dat (.fn f1_ k1_)] ∧ s.t 7 = .v false [.dat (.int .i64 (List.length p0 : Int))] ∧ s.t 8 = .v false [.dat (.int .i64 v8)] ∧ m_slices_IndexFunc_Bucket_L1 p0 p1 m v8 = some r) fuel ?_ ?_
  · refine ⟨0, ?_, ?_, ?_, ?_, h⟩
    all_goals simp +decide only [F, reduceIte, Nat.reduceAdd]
  rintro mL1 s1 ⟨v8, f2, f3, f4, f5, h⟩
  rcases mL1 with _ | mL1
  · exact absurd h (by simp [m_slices_IndexFunc_Bucket_L1])
  simp only [m_slices_IndexFunc_Bucket_L1] at h
  refine sq ?_
  apply SW_run
  · simp +decide only [E, reduceIte, Nat.reduceAdd, Nat.reduceMul, L, f2, f3, f4, f5]
    exact Is.mk _
  refine an (sq ?_)
  rcases bcas (decide (v8 < (List.length p0 : Int))) with b6 | b6
  · replace h := ite_f b6 h
    refine SW_cf (by simp +decide only [F, reduceIte, Nat.reduceAdd, f2, f3, f4, f5, b6]) ?_
    refine xt (aft_cx (aft_ix (aft_x (an (sq ?_)))))
    apply SW_run
    · simp +decide only [E, reduceIte, Nat.reduceAdd, Nat.reduceMul, L, f2, f3, f4, f5, b6]
      exact Is.mk _
    refine an (rt ?_)
    cases h
    simp [Ret, f2, f3, f4, f5, b6]
  replace h := ite_t b6 h
  refine SW_ct (by simp +decide only [F, reduceIte, Nat.reduceAdd, f2, f3, f4, f5, b6]) ?_
  refine sk (an (sq (bk (sq ?_))))
  apply SW_run
  · simp +decide only [E, reduceIte, Nat.reduceAdd, Nat.reduceMul, L, f2, f3, f4, f5, b6]
    exact Is.mk _
  refine an (sq ?_)
  obtain ⟨x7, h8, h⟩ := bind_some h
  obtain ⟨q9, q10, q11⟩ := idx_some h8
  obtain ⟨x12, h13, h⟩ := bind_some h
  apply SW_run
  · simp +decide only [E, reduceIte, Nat.reduceAdd, Nat.reduceMul, L, ti27, ti57, M.Bucket.en, f2, f3, f4, f5, b6, q9, q10, q11]
    refine ⟨_, hp1 x7 x12 h13, ?_⟩
    try simp +decide only [E, reduceIte, Nat.reduceAdd, Nat.reduceMul, L, ti27, ti57, M.Bucket.en, f2, f3, f4, f5, b6, q9, q10, q11]
    exact Is.mk _
  refine an ?_
  rcases bcase x12 with b14 | b14
  · replace h := ite_t b14 h
    refine SW_ct (by simp +decide only [F, reduceIte, Nat.reduceAdd, f2, f3, f4, f5, b6, q9, q10, q11, b14]) ?_
    refine sq ?_
    apply SW_run
    · simp +decide only [E, reduceIte, Nat.reduceAdd, Nat.reduceMul, L, f2, f3, f4, f5, b6, q9, q10, q11, b14]
      exact Is.mk _
    refine an (rt ?_)
    cases h
    simp [Ret, f2, f3, f4, f5, b6, q9, q10, q11, b14]
  replace h := ite_f b14 h
  refine SW_cf (by simp +decide only [F, reduceIte, Nat.reduceAdd, f2, f3, f4, f5, b6, q9, q10, q11, b14]) ?_
  refine sk (ab (an ?_))
  apply SW_run
  · simp +decide only [E, reduceIte, Nat.reduceAdd, Nat.reduceMul, L, f2, f3, f4, f5, b6, q9, q10, q11, b14]
    exact Is.mk _
  refine aft_i ⟨mL1, by omega, (IntKind.i64.wrap (v8 + 1)), ?_, ?_, ?_, ?_, h⟩
  all_goals simp +decide only [F, reduceIte, Nat.reduceAdd, f2, f3, f4, f5, b6, q9, q10, q11, b14]

set_option maxHeartbeats 4000000 in
theorem c_impl_FindBucket (p0 : M.Storage) (p1 : ByteArray) (p2 : ByteArray) (r : Int) (h : m_impl_FindBucket p0 p1 p2 = some r) : SCalls Try.prog 7 [(true, M.Storage.en p0), (false, [.str p1]), (false, [.str p2])] [(false, [.ro (.int .i64 r)])] := by
  unfold m_impl_FindBucket at h
  simp only [M.Storage.en]
  refine scalls_n (N := 11) (vars := [.tmp 6]) Try.func7 rfl rfl rfl (by decide +kernel) (Nat.le_of_ble_eq_true rfl) fun base wd => ?_
  refine sq ?_
  apply SW_run
  · simp +decide only [E, reduceIte, Nat.reduceAdd, Nat.reduceMul, L]
    exact Is.mk _
  refine an (sq ?_)
  obtain ⟨x1, h2, h⟩ := bind_some h
  apply SW_run
  · simp +decide only [E, reduceIte, Nat.reduceAdd, Nat.reduceMul, L, ti27, ti29]
    refine ⟨_, c_slices_IndexFunc_Bucket p0.Buckets (fun z0 => m_impl_FindBucket_1 z0 p1 p2) 12 [.ptr [.str p1], .ptr [.str p2]] (fun z0 r hr => c_impl_FindBucket_1 z0 p1 p2 r hr) x1 h2, ?_⟩
    try simp +decide only [E, reduceIte, Nat.reduceAdd, Nat.reduceMul, L, ti27, ti29]
    exact Is.mk _
  refine an (rt ?_)
  cases h
  simp [Ret, ]

end Go.Proofs.Ytgpiencmneiblaa.gen
