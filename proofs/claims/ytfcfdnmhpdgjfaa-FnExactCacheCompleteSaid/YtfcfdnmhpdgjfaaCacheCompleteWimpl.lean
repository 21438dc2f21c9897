/-
  Helper text: walks: each function's contract out of its model. No conditions beyond those of each contract.
-/
import Derived.Test.YtfcfdnmhpdgjfaaCacheCompleteTi
namespace Go.Proofs.Ytfcfdnmhpdgjfaa.gen
open Go Go.Sh
set_option linter.unusedVariables false
set_option linter.unusedSimpArgs false
set_option maxHeartbeats 4000000 in
theorem c_impl_FindCache_1 (p0 : M.Cache) (c0 : Int) (r : Bool) (h : m_impl_FindCache_1 p0 c0 = some r) : SCalls Try.prog 116 [(true, M.Cache.en p0), (false, [.ptr [.int .i64 c0]])] [(false, [.ro (.bool r)])] := by
  unfold m_impl_FindCache_1 at h
  simp only [M.Cache.en]
  refine scalls_n (N := 8) (vars := [.tmp 3]) Try.func116 rfl rfl rfl (by decide +kernel) (Nat.le_of_ble_eq_true rfl) fun base wd => ?_
  refine sq ?_
  apply SW_run
  · simp +decide only [E, reduceIte, Nat.reduceAdd, Nat.reduceMul, Bool.not_true, Bool.not_false, L]
    exact Is.mk _
  refine an (sq ?_)
  apply SW_run
  · simp +decide only [E, reduceIte, Nat.reduceAdd, Nat.reduceMul, Bool.not_true, Bool.not_false, L, ti3, ti158]
    exact Is.mk _
  refine an (rt ?_)
  cases h
  simp [Ret, ]

set_option maxHeartbeats 4000000 in
theorem c_slices_IndexFunc_Cache (p0 : List M.Cache) (p1 : M.Cache → Option Bool) (f1_ : FuncId) (k1_ : List D) (hp1 : ∀ z0 r, p1 z0 = some r → SCalls Try.prog f1_ ((true, M.Cache.en z0) ::  k1_.map fun c => (false, [c])) [(false, [.ro (.bool r)])]) (r : Int) (h : m_slices_IndexFunc_Cache p0 p1 = some r) : SCalls Try.prog 115 [(false, [.sl (List.map M.Cache.en p0)]), (false, [.fn f1_ k1_])] [(false, [.ro (.int .i64 r)])] := by
  unfold m_slices_IndexFunc_Cache at h
  refine scalls_n (N := 19) (vars := [.tmp 4]) Try.func115 rfl rfl rfl (by decide +kernel) (Nat.le_of_ble_eq_true rfl) fun base wd => ?_
  refine sq ?_
  apply SW_run
  · simp +decide only [E, reduceIte, Nat.reduceAdd, Nat.reduceMul, Bool.not_true, Bool.not_false, L]
    exact Is.mk _
  refine an (sq (sq ?_))
  apply SW_run
  · simp +decide only [E, reduceIte, Nat.reduceAdd, Nat.reduceMul, Bool.not_true, Bool.not_false, L, ti75]
    exact Is.mk _
  refine an (bk ?_)
  refine SW_loop (fun m s => ∃ v8 : Int, s.t 0 = .v false [.dat (.sl (List.map M.Cache.en p0))] ∧ s.t 1 = .v false [.dat (.fn f1_ k1_)] ∧ s.t 7 = .v false [.dat (.int .i64 (List.length p0 : Int))] ∧ s.t 8 = .v false [.dat (.int .i64 v8)] ∧ m_slices_IndexFunc_Cache_L1 p0 p1 m v8 = some r) fuel ?_ ?_
  · refine ⟨0, ?_, ?_, ?_, ?_, h⟩
    all_goals simp +decide only [F, reduceIte, Nat.reduceAdd, Bool.not_true, Bool.not_false]
  rintro mL1 s1 ⟨v8, f2, f3, f4, f5, h⟩
  rcases mL1 with _ | mL1
  · exact absurd h (by simp [m_slices_IndexFunc_Cache_L1])
  simp only [m_slices_IndexFunc_Cache_L1] at h
  refine sq ?_
  apply SW_run
  · simp +decide only [E, reduceIte, Nat.reduceAdd, Nat.reduceMul, Bool.not_true, Bool.not_false, L, f2, f3, f4, f5]
    exact Is.mk _
  refine an (sq ?_)
  rcases bcas (decide (v8 < (List.length p0 : Int))) with b6 | b6
  · replace h := ite_f b6 h
    refine SW_cf (by simp +decide only [F, reduceIte, Nat.reduceAdd, Bool.not_true, Bool.not_false, f2, f3, f4, f5, b6]) ?_
    refine xt (aft_cx (aft_ix (aft_x (an (sq ?_)))))
    apply SW_run
    · simp +decide only [E, reduceIte, Nat.reduceAdd, Nat.reduceMul, Bool.not_true, Bool.not_false, L, f2, f3, f4, f5, b6]
      exact Is.mk _
    refine an (rt ?_)
    cases h
    simp [Ret, f2, f3, f4, f5, b6]
  replace h := ite_t b6 h
  refine SW_ct (by simp +decide only [F, reduceIte, Nat.reduceAdd, Bool.not_true, Bool.not_false, f2, f3, f4, f5, b6]) ?_
  refine sk (an (sq (bk (sq ?_))))
  apply SW_run
  · simp +decide only [E, reduceIte, Nat.reduceAdd, Nat.reduceMul, Bool.not_true, Bool.not_false, L, f2, f3, f4, f5, b6]
    exact Is.mk _
  refine an (sq ?_)
  obtain ⟨x7, h8, h⟩ := bind_some h
  obtain ⟨q9, q10, q11⟩ := idx_some h8
  obtain ⟨x12, h13, h⟩ := bind_some h
  apply SW_run
  · simp +decide only [E, reduceIte, Nat.reduceAdd, Nat.reduceMul, Bool.not_true, Bool.not_false, L, ti75, ti158, M.Cache.en, f2, f3, f4, f5, b6, q9, q10, q11]
    refine ⟨_, hp1 x7 x12 h13, ?_⟩
    try simp +decide only [E, reduceIte, Nat.reduceAdd, Nat.reduceMul, Bool.not_true, Bool.not_false, L, ti75, ti158, M.Cache.en, f2, f3, f4, f5, b6, q9, q10, q11]
    exact Is.mk _
  refine an ?_
  rcases bcase x12 with b14 | b14
  · replace h := ite_t b14 h
    refine SW_ct (by simp +decide only [F, reduceIte, Nat.reduceAdd, Bool.not_true, Bool.not_false, f2, f3, f4, f5, b6, q9, q10, q11, b14]) ?_
    refine sq ?_
    apply SW_run
    · simp +decide only [E, reduceIte, Nat.reduceAdd, Nat.reduceMul, Bool.not_true, Bool.not_false, L, f2, f3, f4, f5, b6, q9, q10, q11, b14]
      exact Is.mk _
    refine an (rt ?_)
    cases h
    simp [Ret, f2, f3, f4, f5, b6, q9, q10, q11, b14]
  replace h := ite_f b14 h
  refine SW_cf (by simp +decide only [F, reduceIte, Nat.reduceAdd, Bool.not_true, Bool.not_false, f2, f3, f4, f5, b6, q9, q10, q11, b14]) ?_
  refine sk (ab (an ?_))
  apply SW_run
  · simp +decide only [E, reduceIte, Nat.reduceAdd, Nat.reduceMul, Bool.not_true, Bool.not_false, L, f2, f3, f4, f5, b6, q9, q10, q11, b14]
    exact Is.mk _
  refine aft_i ⟨mL1, by omega, (IntKind.i64.wrap (v8 + 1)), ?_, ?_, ?_, ?_, h⟩
  all_goals simp +decide only [F, reduceIte, Nat.reduceAdd, Bool.not_true, Bool.not_false, f2, f3, f4, f5, b6, q9, q10, q11, b14]

set_option maxHeartbeats 4000000 in
theorem c_impl_FindCache (p0 : M.CacheSet) (p1 : Int) (r : Int) (h : m_impl_FindCache p0 p1 = some r) : SCalls Try.prog 81 [(true, M.CacheSet.en p0), (false, [.int .i64 p1])] [(false, [.ro (.int .i64 r)])] := by
  unfold m_impl_FindCache at h
  simp only [M.CacheSet.en]
  refine scalls_n (N := 9) (vars := [.tmp 4]) Try.func81 rfl rfl rfl (by decide +kernel) (Nat.le_of_ble_eq_true rfl) fun base wd => ?_
  refine sq ?_
  apply SW_run
  · simp +decide only [E, reduceIte, Nat.reduceAdd, Nat.reduceMul, Bool.not_true, Bool.not_false, L]
    exact Is.mk _
  refine an (sq ?_)
  obtain ⟨x1, h2, h⟩ := bind_some h
  apply SW_run
  · simp +decide only [E, reduceIte, Nat.reduceAdd, Nat.reduceMul, Bool.not_true, Bool.not_false, L, ti75, ti77]
    refine ⟨_, c_slices_IndexFunc_Cache p0.Caches (fun z0 => m_impl_FindCache_1 z0 p1) 116 [.ptr [.int .i64 p1]] (fun z0 r hr => c_impl_FindCache_1 z0 p1 r hr) x1 h2, ?_⟩
    try simp +decide only [E, reduceIte, Nat.reduceAdd, Nat.reduceMul, Bool.not_true, Bool.not_false, L, ti75, ti77]
    exact Is.mk _
  refine an (rt ?_)
  cases h
  simp [Ret, ]

set_option maxHeartbeats 4000000 in
theorem c_impl_ErrorResponse  (r : M.Response) (h : m_impl_ErrorResponse = some r) : SCalls Try.prog 109 [] [(true, [.ro (.int .i64 r.Type_), .ro (.int .i64 r.Status), .ro (.int .i64 r.Version), .own 5 1 (List.map enB r.Body), .ro (.bool r.Shares)])] := by
  unfold m_impl_ErrorResponse at h
  refine scalls_n (N := 2) (vars := [.cell 0 117]) Try.func109 rfl rfl rfl (by decide +kernel) (Nat.le_of_ble_eq_true rfl) fun base wd => ?_
  refine sq ?_
  apply SW_run
  · simp +decide only [E, reduceIte, Nat.reduceAdd, Nat.reduceMul, Bool.not_true, Bool.not_false, L, ti117]
    exact Is.mk _
  refine an (sq ?_)
  apply SW_run
  · simp +decide only [E, reduceIte, Nat.reduceAdd, Nat.reduceMul, Bool.not_true, Bool.not_false, L, ti117]
    exact Is.mk _
  refine an (rt ?_)
  cases h
  simp [Ret, ti117, enB]

set_option maxHeartbeats 4000000 in
theorem c_impl_entryAt_1 (p0 : M.Cached) (c0 : ByteArray) (c1 : ByteArray) (r : Bool) (h : m_impl_entryAt_1 p0 c0 c1 = some r) : SCalls Try.prog 133 [(true, M.Cached.en p0), (false, [.ptr [.str c0]]), (false, [.ptr [.str c1]])] [(false, [.ro (.bool r)])] := by
  unfold m_impl_entryAt_1 at h
  simp only [M.Cached.en]
  refine scalls_n (N := 15) (vars := [.tmp 4]) Try.func133 rfl rfl rfl (by decide +kernel) (Nat.le_of_ble_eq_true rfl) fun base wd => ?_
  refine sq ?_
  apply SW_run
  · simp +decide only [E, reduceIte, Nat.reduceAdd, Nat.reduceMul, Bool.not_true, Bool.not_false, L]
    exact Is.mk _
  refine an (sq ?_)
  rcases bcase (p0.Site.toList == c0.toList) with b1 | b1
  · replace h := ite_t b1 h
    apply SW_run
    · simp +decide only [E, reduceIte, Nat.reduceAdd, Nat.reduceMul, Bool.not_true, Bool.not_false, L, ti9, ti161, b1]
      exact Is.mk _
    refine an (rt ?_)
    cases h
    simp [Ret, b1]
  replace h := ite_f b1 h
  apply SW_run
  · simp +decide only [E, reduceIte, Nat.reduceAdd, Nat.reduceMul, Bool.not_true, Bool.not_false, L, ti9, ti161, b1]
    exact Is.mk _
  refine an (rt ?_)
  cases h
  simp [Ret, b1]

set_option maxHeartbeats 4000000 in
theorem c_slices_IndexFunc_Cached (p0 : List M.Cached) (p1 : M.Cached → Option Bool) (f1_ : FuncId) (k1_ : List D) (hp1 : ∀ z0 r, p1 z0 = some r → SCalls Try.prog f1_ ((true, M.Cached.en z0) ::  k1_.map fun c => (false, [c])) [(false, [.ro (.bool r)])]) (r : Int) (h : m_slices_IndexFunc_Cached p0 p1 = some r) : SCalls Try.prog 132 [(false, [.sl (List.map M.Cached.en p0)]), (false, [.fn f1_ k1_])] [(false, [.ro (.int .i64 r)])] := by
  unfold m_slices_IndexFunc_Cached at h
  refine scalls_n (N := 19) (vars := [.tmp 4]) Try.func132 rfl rfl rfl (by decide +kernel) (Nat.le_of_ble_eq_true rfl) fun base wd => ?_
  refine sq ?_
  apply SW_run
  · simp +decide only [E, reduceIte, Nat.reduceAdd, Nat.reduceMul, Bool.not_true, Bool.not_false, L]
    exact Is.mk _
  refine an (sq (sq ?_))
  apply SW_run
  · simp +decide only [E, reduceIte, Nat.reduceAdd, Nat.reduceMul, Bool.not_true, Bool.not_false, L, ti156]
    exact Is.mk _
  refine an (bk ?_)
  refine SW_loop (fun m s => ∃ v8 : Int, s.t 0 = .v false [.dat (.sl (List.map M.Cached.en p0))] ∧ s.t 1 = .v false [.dat (.fn f1_ k1_)] ∧ s.t 7 = .v false [.dat (.int .i64 (List.length p0 : Int))] ∧ s.t 8 = .v false [.dat (.int .i64 v8)] ∧ m_slices_IndexFunc_Cached_L1 p0 p1 m v8 = some r) fuel ?_ ?_
  · refine ⟨0, ?_, ?_, ?_, ?_, h⟩
    all_goals simp +decide only [F, reduceIte, Nat.reduceAdd, Bool.not_true, Bool.not_false]
  rintro mL1 s1 ⟨v8, f2, f3, f4, f5, h⟩
  rcases mL1 with _ | mL1
  · exact absurd h (by simp [m_slices_IndexFunc_Cached_L1])
  simp only [m_slices_IndexFunc_Cached_L1] at h
  refine sq ?_
  apply SW_run
  · simp +decide only [E, reduceIte, Nat.reduceAdd, Nat.reduceMul, Bool.not_true, Bool.not_false, L, f2, f3, f4, f5]
    exact Is.mk _
  refine an (sq ?_)
  rcases bcas (decide (v8 < (List.length p0 : Int))) with b6 | b6
  · replace h := ite_f b6 h
    refine SW_cf (by simp +decide only [F, reduceIte, Nat.reduceAdd, Bool.not_true, Bool.not_false, f2, f3, f4, f5, b6]) ?_
    refine xt (aft_cx (aft_ix (aft_x (an (sq ?_)))))
    apply SW_run
    · simp +decide only [E, reduceIte, Nat.reduceAdd, Nat.reduceMul, Bool.not_true, Bool.not_false, L, f2, f3, f4, f5, b6]
      exact Is.mk _
    refine an (rt ?_)
    cases h
    simp [Ret, f2, f3, f4, f5, b6]
  replace h := ite_t b6 h
  refine SW_ct (by simp +decide only [F, reduceIte, Nat.reduceAdd, Bool.not_true, Bool.not_false, f2, f3, f4, f5, b6]) ?_
  refine sk (an (sq (bk (sq ?_))))
  apply SW_run
  · simp +decide only [E, reduceIte, Nat.reduceAdd, Nat.reduceMul, Bool.not_true, Bool.not_false, L, f2, f3, f4, f5, b6]
    exact Is.mk _
  refine an (sq ?_)
  obtain ⟨x7, h8, h⟩ := bind_some h
  obtain ⟨q9, q10, q11⟩ := idx_some h8
  obtain ⟨x12, h13, h⟩ := bind_some h
  apply SW_run
  · simp +decide only [E, reduceIte, Nat.reduceAdd, Nat.reduceMul, Bool.not_true, Bool.not_false, L, ti156, ti161, M.Cached.en, f2, f3, f4, f5, b6, q9, q10, q11]
    refine ⟨_, hp1 x7 x12 h13, ?_⟩
    try simp +decide only [E, reduceIte, Nat.reduceAdd, Nat.reduceMul, Bool.not_true, Bool.not_false, L, ti156, ti161, M.Cached.en, f2, f3, f4, f5, b6, q9, q10, q11]
    exact Is.mk _
  refine an ?_
  rcases bcase x12 with b14 | b14
  · replace h := ite_t b14 h
    refine SW_ct (by simp +decide only [F, reduceIte, Nat.reduceAdd, Bool.not_true, Bool.not_false, f2, f3, f4, f5, b6, q9, q10, q11, b14]) ?_
    refine sq ?_
    apply SW_run
    · simp +decide only [E, reduceIte, Nat.reduceAdd, Nat.reduceMul, Bool.not_true, Bool.not_false, L, f2, f3, f4, f5, b6, q9, q10, q11, b14]
      exact Is.mk _
    refine an (rt ?_)
    cases h
    simp [Ret, f2, f3, f4, f5, b6, q9, q10, q11, b14]
  replace h := ite_f b14 h
  refine SW_cf (by simp +decide only [F, reduceIte, Nat.reduceAdd, Bool.not_true, Bool.not_false, f2, f3, f4, f5, b6, q9, q10, q11, b14]) ?_
  refine sk (ab (an ?_))
  apply SW_run
  · simp +decide only [E, reduceIte, Nat.reduceAdd, Nat.reduceMul, Bool.not_true, Bool.not_false, L, f2, f3, f4, f5, b6, q9, q10, q11, b14]
    exact Is.mk _
  refine aft_i ⟨mL1, by omega, (IntKind.i64.wrap (v8 + 1)), ?_, ?_, ?_, ?_, h⟩
  all_goals simp +decide only [F, reduceIte, Nat.reduceAdd, Bool.not_true, Bool.not_false, f2, f3, f4, f5, b6, q9, q10, q11, b14]

set_option maxHeartbeats 4000000 in
theorem c_impl_entryAt (p0 : M.Cache) (p1 : ByteArray) (p2 : ByteArray) (r : Int) (h : m_impl_entryAt p0 p1 p2 = some r) : SCalls Try.prog 110 [(true, M.Cache.en p0), (false, [.str p1]), (false, [.str p2])] [(false, [.ro (.int .i64 r)])] := by
  unfold m_impl_entryAt at h
  simp only [M.Cache.en]
  refine scalls_n (N := 11) (vars := [.tmp 6]) Try.func110 rfl rfl rfl (by decide +kernel) (Nat.le_of_ble_eq_true rfl) fun base wd => ?_
  refine sq ?_
  apply SW_run
  · simp +decide only [E, reduceIte, Nat.reduceAdd, Nat.reduceMul, Bool.not_true, Bool.not_false, L]
    exact Is.mk _
  refine an (sq ?_)
  obtain ⟨x1, h2, h⟩ := bind_some h
  apply SW_run
  · simp +decide only [E, reduceIte, Nat.reduceAdd, Nat.reduceMul, Bool.not_true, Bool.not_false, L, ti156, ti158]
    refine ⟨_, c_slices_IndexFunc_Cached p0.Entries (fun z0 => m_impl_entryAt_1 z0 p1 p2) 133 [.ptr [.str p1], .ptr [.str p2]] (fun z0 r hr => c_impl_entryAt_1 z0 p1 p2 r hr) x1 h2, ?_⟩
    try simp +decide only [E, reduceIte, Nat.reduceAdd, Nat.reduceMul, Bool.not_true, Bool.not_false, L, ti156, ti158]
    exact Is.mk _
  refine an (rt ?_)
  cases h
  simp [Ret, ]

set_option maxHeartbeats 4000000 in
theorem c_impl_copyBytes (p0 : List Int) (r : (List Int)) (h : m_impl_copyBytes p0 = some r) : SCalls Try.prog 134 [(false, [.sl (List.map enB p0)])] [(false, [.own 5 1 (List.map enB r)])] := by
  unfold m_impl_copyBytes at h
  refine scalls_n (N := 6) (vars := [.tmp 2]) Try.func134 rfl rfl rfl (by decide +kernel) (Nat.le_of_ble_eq_true rfl) fun base wd => ?_
  refine sq ?_
  apply SW_run
  · simp +decide only [E, reduceIte, Nat.reduceAdd, Nat.reduceMul, Bool.not_true, Bool.not_false, L]
    exact Is.mk _
  refine an (sq ?_)
  obtain ⟨x1, h2, h⟩ := bind_some h
  apply SW_run
  · simp +decide only [E, reduceIte, Nat.reduceAdd, Nat.reduceMul, Bool.not_true, Bool.not_false, enB.fl, L, ti5, ti57, enB]
    refine ⟨by (have hb := app_some h2); simp [enB, List.length_append] at hb ⊢ <;> omega, ?_⟩
    try simp +decide only [E, reduceIte, Nat.reduceAdd, Nat.reduceMul, Bool.not_true, Bool.not_false, enB.fl, L, ti5, ti57, enB]
    exact Is.mk _
  refine an (rt ?_)
  cases h
  simp [Ret, enB]

set_option maxHeartbeats 4000000 in
theorem c_impl_copyResponse (p0 : M.Response) (r : M.Response) (h : m_impl_copyResponse p0 = some r) : SCalls Try.prog 111 [(true, M.Response.en p0)] [(true, [.ro (.int .i64 r.Type_), .ro (.int .i64 r.Status), .ro (.int .i64 r.Version), .own 5 1 (List.map enB r.Body), .ro (.bool r.Shares)])] := by
  unfold m_impl_copyResponse at h
  simp only [M.Response.en]
  refine scalls_n (N := 8) (vars := [.cell 2 117]) Try.func111 rfl rfl rfl (by decide +kernel) (Nat.le_of_ble_eq_true rfl) fun base wd => ?_
  refine sq ?_
  apply SW_run
  · simp +decide only [E, reduceIte, Nat.reduceAdd, Nat.reduceMul, Bool.not_true, Bool.not_false, L, ti117]
    exact Is.mk _
  refine an (sq ?_)
  obtain ⟨x1, h2, h⟩ := bind_some h
  apply SW_run
  · simp +decide only [E, reduceIte, Nat.reduceAdd, Nat.reduceMul, Bool.not_true, Bool.not_false, L, ti57, ti117]
    refine ⟨_, c_impl_copyBytes p0.Body x1 h2, ?_⟩
    try simp +decide only [E, reduceIte, Nat.reduceAdd, Nat.reduceMul, Bool.not_true, Bool.not_false, L, ti57, ti117]
    exact Is.mk _
  refine an (sq ?_)
  apply SW_run
  · simp +decide only [E, reduceIte, Nat.reduceAdd, Nat.reduceMul, Bool.not_true, Bool.not_false, L, ti117]
    exact Is.mk _
  refine an (rt ?_)
  cases h
  simp [Ret, ti117, enB]

set_option maxHeartbeats 4000000 in
theorem c_impl_MatchCache (p0 : M.CacheSet) (p1 : Int) (p2 : ByteArray) (p3 : ByteArray) (r : (M.Response × Bool)) (h : m_impl_MatchCache p0 p1 p2 p3 = some r) : SCalls Try.prog 78 [(true, M.CacheSet.en p0), (false, [.int .i64 p1]), (false, [.str p2]), (false, [.str p3])] [(true, [.ro (.int .i64 r.1.Type_), .ro (.int .i64 r.1.Status), .ro (.int .i64 r.1.Version), .own 5 1 (List.map enB r.1.Body), .ro (.bool r.1.Shares)]), (false, [.ro (.bool r.2)])] := by
  unfold m_impl_MatchCache at h
  simp only [M.CacheSet.en]
  refine scalls_n (N := 40) (vars := [.cell 8 117, .tmp 9]) Try.func78 rfl rfl rfl (by decide +kernel) (Nat.le_of_ble_eq_true rfl) fun base wd => ?_
  refine sq ?_
  apply SW_run
  · simp +decide only [E, reduceIte, Nat.reduceAdd, Nat.reduceMul, Bool.not_true, Bool.not_false, L, ti117]
    exact Is.mk _
  refine an (sq ?_)
  obtain ⟨x1, h2, h⟩ := bind_some h
  apply SW_run
  · simp +decide only [E, reduceIte, Nat.reduceAdd, Nat.reduceMul, Bool.not_true, Bool.not_false, L, ti77]
    refine ⟨_, c_impl_FindCache p0 p1 x1 h2, ?_⟩
    try simp +decide only [E, reduceIte, Nat.reduceAdd, Nat.reduceMul, Bool.not_true, Bool.not_false, L, ti77]
    exact Is.mk _
  refine an (sq (sq ?_))
  apply SW_run
  · simp +decide only [E, reduceIte, Nat.reduceAdd, Nat.reduceMul, Bool.not_true, Bool.not_false, L]
    exact Is.mk _
  refine an ?_
  rcases bcase (decide (x1 < 0)) with b3 | b3
  · replace h := ite_t b3 h
    refine SW_ct (by simp +decide only [F, reduceIte, Nat.reduceAdd, Bool.not_true, Bool.not_false, b3]) ?_
    refine sq ?_
    obtain ⟨x4, h5, h⟩ := bind_some h
    apply SW_run
    · simp +decide only [E, reduceIte, Nat.reduceAdd, Nat.reduceMul, Bool.not_true, Bool.not_false, L, ti117, b3]
      refine ⟨_, c_impl_ErrorResponse x4 h5, ?_⟩
      try simp +decide only [E, reduceIte, Nat.reduceAdd, Nat.reduceMul, Bool.not_true, Bool.not_false, L, ti117, b3]
      exact Is.mk _
    refine an (rt ?_)
    cases h
    simp [Ret, ti117, enB, b3]
  replace h := ite_f b3 h
  refine SW_cf (by simp +decide only [F, reduceIte, Nat.reduceAdd, Bool.not_true, Bool.not_false, b3]) ?_
  refine sk (an (sq ?_))
  obtain ⟨x6, h7, h⟩ := bind_some h
  obtain ⟨q8, q9, q10⟩ := idx_some h7
  obtain ⟨x11, h12, h⟩ := bind_some h
  apply SW_run
  · simp +decide only [E, reduceIte, Nat.reduceAdd, Nat.reduceMul, Bool.not_true, Bool.not_false, L, ti75, ti77, ti158, M.Cache.en, b3, q8, q9, q10]
    refine ⟨_, c_impl_entryAt x6 p2 p3 x11 h12, ?_⟩
    try simp +decide only [E, reduceIte, Nat.reduceAdd, Nat.reduceMul, Bool.not_true, Bool.not_false, L, ti75, ti77, ti158, M.Cache.en, b3, q8, q9, q10]
    exact Is.mk _
  refine an (sq (sq ?_))
  apply SW_run
  · simp +decide only [E, reduceIte, Nat.reduceAdd, Nat.reduceMul, Bool.not_true, Bool.not_false, L, b3, q8, q9, q10]
    exact Is.mk _
  refine an ?_
  rcases bcase (decide (x11 < 0)) with b13 | b13
  · replace h := ite_t b13 h
    refine SW_ct (by simp +decide only [F, reduceIte, Nat.reduceAdd, Bool.not_true, Bool.not_false, b3, q8, q9, q10, b13]) ?_
    refine sq ?_
    obtain ⟨x14, h15, h⟩ := bind_some h
    apply SW_run
    · simp +decide only [E, reduceIte, Nat.reduceAdd, Nat.reduceMul, Bool.not_true, Bool.not_false, L, ti117, b3, q8, q9, q10, b13]
      refine ⟨_, c_impl_ErrorResponse x14 h15, ?_⟩
      try simp +decide only [E, reduceIte, Nat.reduceAdd, Nat.reduceMul, Bool.not_true, Bool.not_false, L, ti117, b3, q8, q9, q10, b13]
      exact Is.mk _
    refine an (rt ?_)
    cases h
    simp [Ret, ti117, enB, b3, q8, q9, q10, b13]
  replace h := ite_f b13 h
  refine SW_cf (by simp +decide only [F, reduceIte, Nat.reduceAdd, Bool.not_true, Bool.not_false, b3, q8, q9, q10, b13]) ?_
  refine sk (an (sq ?_))
  obtain ⟨x16, h17, h⟩ := bind_some h
  obtain ⟨q18, q19, q20⟩ := idx_some h17
  obtain ⟨x21, h22, h⟩ := bind_some h
  apply SW_run
  · simp +decide only [E, reduceIte, Nat.reduceAdd, Nat.reduceMul, Bool.not_true, Bool.not_false, L, ti75, ti77, ti117, ti156, ti158, ti161, M.Cache.en, M.Cached.en, b3, q8, q9, q10, b13, q18, q19, q20]
    refine ⟨_, c_impl_copyResponse x16.Response x21 h22, ?_⟩
    try simp +decide only [E, reduceIte, Nat.reduceAdd, Nat.reduceMul, Bool.not_true, Bool.not_false, L, ti75, ti77, ti117, ti156, ti158, ti161, M.Cache.en, M.Cached.en, b3, q8, q9, q10, b13, q18, q19, q20]
    exact Is.mk _
  refine an (rt ?_)
  cases h
  simp [Ret, ti117, enB, b3, q8, q9, q10, b13, q18, q19, q20]

set_option maxHeartbeats 4000000 in
theorem c_impl_BytesToInts (p0 : List Int) (r : (List Int)) (h : m_impl_BytesToInts p0 = some r) : SCalls Try.prog 136 [(false, [.sl (List.map enB p0)])] [(false, [.own 3 1 (List.map enI r)])] := by
  unfold m_impl_BytesToInts at h
  refine scalls_n (N := 22) (vars := [.tmp 2]) Try.func136 rfl rfl rfl (by decide +kernel) (Nat.le_of_ble_eq_true rfl) fun base wd => ?_
  refine sq ?_
  apply SW_run
  · simp +decide only [E, reduceIte, Nat.reduceAdd, Nat.reduceMul, Bool.not_true, Bool.not_false, L]
    exact Is.mk _
  refine an (sq ?_)
  apply SW_run
  · simp +decide only [E, reduceIte, Nat.reduceAdd, Nat.reduceMul, Bool.not_true, Bool.not_false, L, ti3, ti42, ti57, enI]
    exact Is.mk _
  refine an (sq (sq ?_))
  refine SW_cut (J := fun s => s.t 0 = .v false [.dat (.sl (List.map enB p0))] ∧ s.t 3 = .v false [.row 100008 1] ∧ s.h 100008 = (1, .row 3 1 (List.map enI ([(List.length p0 : Int)])) true) ∧ True) ?_ ?_
  · refine ⟨?_, ?_, ?_, trivial⟩ <;> (try simp +decide only [F, reduceIte, Nat.reduceAdd, Bool.not_true, Bool.not_false, enI])
  rintro s1 ⟨f2, f3, f4, _⟩
  apply SW_run
  · simp +decide only [E, reduceIte, Nat.reduceAdd, Nat.reduceMul, Bool.not_true, Bool.not_false, L, ti57, f2, f3, f4]
    exact Is.mk _
  refine an (bk ?_)
  refine SW_loop (fun m s => ∃ v11 : Int, ∃ r8 : List Int, ∃ u8 : Nat, s.t 3 = .v false [.row 100008 u8] ∧ s.t 9 = .v false [.dat (.sl (List.map enB p0))] ∧ s.t 10 = .v false [.dat (.int .i64 (List.length p0 : Int))] ∧ s.t 11 = .v false [.dat (.int .i64 v11)] ∧ s.h 100008 = (u8, .row 3 1 (List.map enI r8) true) ∧ m_impl_BytesToInts_L1 p0 m v11 r8 = some r) fuel ?_ ?_
  · refine ⟨0, ([(List.length p0 : Int)]), 1, ?_, ?_, ?_, ?_, ?_, h⟩
    all_goals simp +decide only [F, reduceIte, Nat.reduceAdd, Bool.not_true, Bool.not_false, enI, f2, f3, f4]
  rintro mL1 s5 ⟨v11, r8, u8, f6, f7, f8, f9, f10, h⟩
  rcases mL1 with _ | mL1
  · exact absurd h (by simp [m_impl_BytesToInts_L1])
  simp only [m_impl_BytesToInts_L1] at h
  refine sq ?_
  apply SW_run
  · simp +decide only [E, reduceIte, Nat.reduceAdd, Nat.reduceMul, Bool.not_true, Bool.not_false, L, f6, f7, f8, f9, f10]
    exact Is.mk _
  refine an (sq ?_)
  rcases bcas (decide (v11 < (List.length p0 : Int))) with b11 | b11
  · replace h := ite_f b11 h
    refine SW_cf (by simp +decide only [F, reduceIte, Nat.reduceAdd, Bool.not_true, Bool.not_false, f6, f7, f8, f9, f10, b11]) ?_
    refine xt (aft_cx (aft_ix (aft_x (an (sq ?_)))))
    apply SW_run
    · simp +decide only [E, reduceIte, Nat.reduceAdd, Nat.reduceMul, Bool.not_true, Bool.not_false, L, f6, f7, f8, f9, f10, b11]
      exact Is.mk _
    refine an (rt ?_)
    cases h
    simp [Ret, enI, f6, f7, f8, f9, f10, b11]
  replace h := ite_t b11 h
  refine SW_ct (by simp +decide only [F, reduceIte, Nat.reduceAdd, Bool.not_true, Bool.not_false, f6, f7, f8, f9, f10, b11]) ?_
  refine sk (an (sq (bk (sq ?_))))
  obtain ⟨x12, h13, h⟩ := bind_some h
  obtain ⟨q14, q15, q16⟩ := idx_some h13
  apply SW_run
  · simp +decide only [E, reduceIte, Nat.reduceAdd, Nat.reduceMul, Bool.not_true, Bool.not_false, L, ti5, ti57, enB, f6, f7, f8, f9, f10, b11, q14, q15, q16]
    exact Is.mk _
  refine an ?_
  obtain ⟨x17, h18, h⟩ := bind_some h
  apply SW_run
  · simp +decide only [E, reduceIte, Nat.reduceAdd, Nat.reduceMul, Bool.not_true, Bool.not_false, L, ti3, ti5, ti42, enI, f6, f7, f8, f9, f10, b11, q14, q15, q16]
    refine ⟨by (have hb := app_some h18); simp [enI, List.length_append] at hb ⊢ <;> omega, ?_⟩
    try simp +decide only [E, reduceIte, Nat.reduceAdd, Nat.reduceMul, Bool.not_true, Bool.not_false, L, ti3, ti5, ti42, enI, f6, f7, f8, f9, f10, b11, q14, q15, q16]
    exact Is.mk _
  refine ab (an ?_)
  refine SW_cut (J := fun s => s.t 3 = .v false [.row 100008 (u8 + 1)] ∧ s.t 9 = .v false [.dat (.sl (List.map enB p0))] ∧ s.t 10 = .v false [.dat (.int .i64 (List.length p0 : Int))] ∧ s.t 11 = .v false [.dat (.int .i64 v11)] ∧ s.h 100008 = ((u8 + 1), .row 3 1 (List.map enI (r8 ++ [(IntKind.i64.wrap x12)])) true) ∧ True) ?_ ?_
  · refine ⟨?_, ?_, ?_, ?_, ?_, trivial⟩ <;> (try simp +decide only [F, reduceIte, Nat.reduceAdd, Bool.not_true, Bool.not_false, enI, f6, f7, f8, f9, f10, b11, q14, q15, q16])
  rintro s19 ⟨f20, f21, f22, f23, f24, _⟩
  apply SW_run
  · simp +decide only [E, reduceIte, Nat.reduceAdd, Nat.reduceMul, Bool.not_true, Bool.not_false, L, b11, q14, q15, q16, f20, f21, f22, f23, f24]
    exact Is.mk _
  refine aft_i ⟨mL1, by omega, (IntKind.i64.wrap (v11 + 1)), (r8 ++ [(IntKind.i64.wrap x12)]), (u8 + 1), ?_, ?_, ?_, ?_, ?_, h⟩
  all_goals simp +decide only [F, reduceIte, Nat.reduceAdd, Bool.not_true, Bool.not_false, enI, b11, q14, q15, q16, f20, f21, f22, f23, f24]

set_option maxHeartbeats 4000000 in
theorem c_impl_InRange (p0 : Int) (p1 : Int) (p2 : Int) (r : Bool) (h : m_impl_InRange p0 p1 p2 = some r) : SCalls Try.prog 155 [(false, [.int .i64 p0]), (false, [.int .i64 p1]), (false, [.int .i64 p2])] [(false, [.ro (.bool r)])] := by
  unfold m_impl_InRange at h
  refine scalls_n (N := 15) (vars := [.tmp 6]) Try.func155 rfl rfl rfl (by decide +kernel) (Nat.le_of_ble_eq_true rfl) fun base wd => ?_
  refine sq ?_
  apply SW_run
  · simp +decide only [E, reduceIte, Nat.reduceAdd, Nat.reduceMul, Bool.not_true, Bool.not_false, L]
    exact Is.mk _
  refine an (sq ?_)
  rcases bcase (decide (p1 ≤ p0)) with b1 | b1
  · replace h := ite_t b1 h
    apply SW_run
    · simp +decide only [E, reduceIte, Nat.reduceAdd, Nat.reduceMul, Bool.not_true, Bool.not_false, L, b1]
      exact Is.mk _
    refine an (rt ?_)
    cases h
    simp [Ret, b1]
  replace h := ite_f b1 h
  apply SW_run
  · simp +decide only [E, reduceIte, Nat.reduceAdd, Nat.reduceMul, Bool.not_true, Bool.not_false, L, b1]
    exact Is.mk _
  refine an (rt ?_)
  cases h
  simp [Ret, b1]

set_option maxHeartbeats 4000000 in
theorem c_impl_Mod (p0 : Int) (p1 : Int) (r : Int) (h : m_impl_Mod p0 p1 = some r) : SCalls Try.prog 145 [(false, [.int .i64 p0]), (false, [.int .i64 p1])] [(false, [.ro (.int .i64 r)])] := by
  unfold m_impl_Mod at h
  refine scalls_n (N := 18) (vars := [.tmp 4]) Try.func145 rfl rfl rfl (by decide +kernel) (Nat.le_of_ble_eq_true rfl) fun base wd => ?_
  refine sq ?_
  apply SW_run
  · simp +decide only [E, reduceIte, Nat.reduceAdd, Nat.reduceMul, Bool.not_true, Bool.not_false, L]
    exact Is.mk _
  refine an (sq (sq ?_))
  obtain ⟨x1, h2, h⟩ := bind_some h
  apply SW_run
  · simp +decide only [E, reduceIte, Nat.reduceAdd, Nat.reduceMul, Bool.not_true, Bool.not_false, L]
    refine ⟨_, c_impl_InRange p1 1 1000000000000 x1 h2, ?_⟩
    try simp +decide only [E, reduceIte, Nat.reduceAdd, Nat.reduceMul, Bool.not_true, Bool.not_false, L]
    exact Is.mk _
  refine an ?_
  rcases bcase (!x1) with b3 | b3
  · replace h := ite_t b3 h
    refine SW_ct (by simp +decide only [F, reduceIte, Nat.reduceAdd, Bool.not_true, Bool.not_false, b3]) ?_
    refine sq ?_
    apply SW_run
    · simp +decide only [E, reduceIte, Nat.reduceAdd, Nat.reduceMul, Bool.not_true, Bool.not_false, L, b3]
      exact Is.mk _
    refine an (rt ?_)
    cases h
    simp [Ret, b3]
  replace h := ite_f b3 h
  refine SW_cf (by simp +decide only [F, reduceIte, Nat.reduceAdd, Bool.not_true, Bool.not_false, b3]) ?_
  refine sk (an (sq ?_))
  rcases bcase (decide (p1 = 0)) with b4 | b4
  · replace h := ite_t b4 h
    cases h
  replace h := ite_f b4 h
  apply SW_run
  · simp +decide only [E, reduceIte, Nat.reduceAdd, Nat.reduceMul, Bool.not_true, Bool.not_false, div_ok, L, b3, b4]
    exact Is.mk _
  refine an (sq (sq ?_))
  apply SW_run
  · simp +decide only [E, reduceIte, Nat.reduceAdd, Nat.reduceMul, Bool.not_true, Bool.not_false, L, b3, b4]
    exact Is.mk _
  refine an ?_
  rcases bcas (decide ((Int.tmod p0 p1) < 0)) with b5 | b5
  · replace h := ite_f b5 h
    refine SW_cf (by simp +decide only [F, reduceIte, Nat.reduceAdd, Bool.not_true, Bool.not_false, b3, b4, b5]) ?_
    refine sk (an (sq ?_))
    apply SW_run
    · simp +decide only [E, reduceIte, Nat.reduceAdd, Nat.reduceMul, Bool.not_true, Bool.not_false, L, b3, b4, b5]
      exact Is.mk _
    refine an (rt ?_)
    cases h
    simp [Ret, b3, b4, b5]
  replace h := ite_t b5 h
  refine SW_ct (by simp +decide only [F, reduceIte, Nat.reduceAdd, Bool.not_true, Bool.not_false, b3, b4, b5]) ?_
  apply SW_run
  · simp +decide only [E, reduceIte, Nat.reduceAdd, Nat.reduceMul, Bool.not_true, Bool.not_false, L, b3, b4, b5]
    exact Is.mk _
  refine an (sq ?_)
  apply SW_run
  · simp +decide only [E, reduceIte, Nat.reduceAdd, Nat.reduceMul, Bool.not_true, Bool.not_false, L, b3, b4, b5]
    exact Is.mk _
  refine an (rt ?_)
  cases h
  simp [Ret, b3, b4, b5]

set_option maxHeartbeats 4000000 in
theorem c_impl_Hash (p0 : List Int) (r : Int) (h : m_impl_Hash p0 = some r) : SCalls Try.prog 135 [(false, [.sl (List.map enI p0)])] [(false, [.ro (.int .i64 r)])] := by
  unfold m_impl_Hash at h
  refine scalls_n (N := 21) (vars := [.tmp 2]) Try.func135 rfl rfl rfl (by decide +kernel) (Nat.le_of_ble_eq_true rfl) fun base wd => ?_
  refine sq ?_
  apply SW_run
  · simp +decide only [E, reduceIte, Nat.reduceAdd, Nat.reduceMul, Bool.not_true, Bool.not_false, L]
    exact Is.mk _
  refine an (sq ?_)
  apply SW_run
  · simp +decide only [E, reduceIte, Nat.reduceAdd, Nat.reduceMul, Bool.not_true, Bool.not_false, L]
    exact Is.mk _
  refine an (sq (sq ?_))
  apply SW_run
  · simp +decide only [E, reduceIte, Nat.reduceAdd, Nat.reduceMul, Bool.not_true, Bool.not_false, L, ti42]
    exact Is.mk _
  refine an (bk ?_)
  refine SW_loop (fun m s => ∃ v3 : Int, ∃ v8 : Int, s.t 3 = .v false [.dat (.int .i64 v3)] ∧ s.t 6 = .v false [.dat (.sl (List.map enI p0))] ∧ s.t 7 = .v false [.dat (.int .i64 (List.length p0 : Int))] ∧ s.t 8 = .v false [.dat (.int .i64 v8)] ∧ m_impl_Hash_L1 p0 m v3 v8 = some r) fuel ?_ ?_
  · refine ⟨11, 0, ?_, ?_, ?_, ?_, h⟩
    all_goals simp +decide only [F, reduceIte, Nat.reduceAdd, Bool.not_true, Bool.not_false]
  rintro mL1 s1 ⟨v3, v8, f2, f3, f4, f5, h⟩
  rcases mL1 with _ | mL1
  · exact absurd h (by simp [m_impl_Hash_L1])
  simp only [m_impl_Hash_L1] at h
  refine sq ?_
  apply SW_run
  · simp +decide only [E, reduceIte, Nat.reduceAdd, Nat.reduceMul, Bool.not_true, Bool.not_false, L, f2, f3, f4, f5]
    exact Is.mk _
  refine an (sq ?_)
  rcases bcas (decide (v8 < (List.length p0 : Int))) with b6 | b6
  · replace h := ite_f b6 h
    refine SW_cf (by simp +decide only [F, reduceIte, Nat.reduceAdd, Bool.not_true, Bool.not_false, f2, f3, f4, f5, b6]) ?_
    refine xt (aft_cx (aft_ix (aft_x (an (sq ?_)))))
    apply SW_run
    · simp +decide only [E, reduceIte, Nat.reduceAdd, Nat.reduceMul, Bool.not_true, Bool.not_false, L, f2, f3, f4, f5, b6]
      exact Is.mk _
    refine an (rt ?_)
    cases h
    simp [Ret, f2, f3, f4, f5, b6]
  replace h := ite_t b6 h
  refine SW_ct (by simp +decide only [F, reduceIte, Nat.reduceAdd, Bool.not_true, Bool.not_false, f2, f3, f4, f5, b6]) ?_
  refine sk (an (sq (bk (sq ?_))))
  obtain ⟨x7, h8, h⟩ := bind_some h
  obtain ⟨q9, q10, q11⟩ := idx_some h8
  apply SW_run
  · simp +decide only [E, reduceIte, Nat.reduceAdd, Nat.reduceMul, Bool.not_true, Bool.not_false, L, ti3, ti42, enI, f2, f3, f4, f5, b6, q9, q10, q11]
    exact Is.mk _
  refine an ?_
  obtain ⟨x12, h13, h⟩ := bind_some h
  apply SW_run
  · simp +decide only [E, reduceIte, Nat.reduceAdd, Nat.reduceMul, Bool.not_true, Bool.not_false, Int.reduceEq, L, f2, f3, f4, f5, b6, q9, q10, q11]
    refine ⟨_, c_impl_Mod x7 2147483647 x12 h13, ?_⟩
    try simp +decide only [E, reduceIte, Nat.reduceAdd, Nat.reduceMul, Bool.not_true, Bool.not_false, Int.reduceEq, L, f2, f3, f4, f5, b6, q9, q10, q11]
    exact Is.mk _
  refine ab (an ?_)
  apply SW_run
  · simp +decide only [E, reduceIte, Nat.reduceAdd, Nat.reduceMul, Bool.not_true, Bool.not_false, L, f2, f3, f4, f5, b6, q9, q10, q11]
    exact Is.mk _
  refine aft_i ⟨mL1, by omega, (Int.tmod (IntKind.i64.wrap ((IntKind.i64.wrap ((IntKind.i64.wrap (v3 * 1000003)) + x12)) + 13)) 2147483647), (IntKind.i64.wrap (v8 + 1)), ?_, ?_, ?_, ?_, h⟩
  all_goals simp +decide only [F, reduceIte, Nat.reduceAdd, Bool.not_true, Bool.not_false, f2, f3, f4, f5, b6, q9, q10, q11]

set_option maxHeartbeats 4000000 in
theorem c_impl_KeyedHash (p0 : Int) (p1 : List Int) (r : Int) (h : m_impl_KeyedHash p0 p1 = some r) : SCalls Try.prog 113 [(false, [.int .i64 p0]), (false, [.sl (List.map enI p1)])] [(false, [.ro (.int .i64 r)])] := by
  unfold m_impl_KeyedHash at h
  refine scalls_n (N := 13) (vars := [.tmp 4]) Try.func113 rfl rfl rfl (by decide +kernel) (Nat.le_of_ble_eq_true rfl) fun base wd => ?_
  refine sq ?_
  apply SW_run
  · simp +decide only [E, reduceIte, Nat.reduceAdd, Nat.reduceMul, Bool.not_true, Bool.not_false, L]
    exact Is.mk _
  refine an (sq ?_)
  obtain ⟨x1, h2, h⟩ := bind_some h
  obtain ⟨x3, h4, h⟩ := bind_some h
  obtain ⟨x5, h6, h⟩ := bind_some h
  apply SW_run
  · simp +decide only [E, reduceIte, Nat.reduceAdd, Nat.reduceMul, Bool.not_true, Bool.not_false, enI.fl, L, ti3, ti42, enI]
    refine ⟨by (have hb := app_some h2); simp [enI, List.length_append] at hb ⊢ <;> omega, ?_⟩
    try simp +decide only [E, reduceIte, Nat.reduceAdd, Nat.reduceMul, Bool.not_true, Bool.not_false, enI.fl, L, ti3, ti42, enI]
    refine ⟨by (have hb := app_some h4); simp [enI, List.length_append] at hb ⊢ <;> omega, ?_⟩
    try simp +decide only [E, reduceIte, Nat.reduceAdd, Nat.reduceMul, Bool.not_true, Bool.not_false, enI.fl, L, ti3, ti42, enI]
    have hc := c_impl_Hash (([p0] ++ p1) ++ [p0]) x5 h6
    simp only [List.map_append, List.map_cons, List.map_nil, enI] at hc
    refine ⟨_, hc, ?_⟩
    try simp +decide only [E, reduceIte, Nat.reduceAdd, Nat.reduceMul, Bool.not_true, Bool.not_false, enI.fl, L, ti3, ti42, enI]
    exact Is.mk _
  refine an (rt ?_)
  cases h
  simp [Ret, ]

set_option maxHeartbeats 4000000 in
theorem c_impl_DeriveFromString (p0 : Int) (p1 : ByteArray) (r : Int) (h : m_impl_DeriveFromString p0 p1 = some r) : SCalls Try.prog 114 [(false, [.int .i64 p0]), (false, [.str p1])] [(false, [.ro (.int .i64 r)])] := by
  unfold m_impl_DeriveFromString at h
  refine scalls_n (N := 14) (vars := [.tmp 4]) Try.func114 rfl rfl rfl (by decide +kernel) (Nat.le_of_ble_eq_true rfl) fun base wd => ?_
  refine sq ?_
  apply SW_run
  · simp +decide only [E, reduceIte, Nat.reduceAdd, Nat.reduceMul, Bool.not_true, Bool.not_false, L]
    exact Is.mk _
  refine an (sq ?_)
  obtain ⟨x1, h2, h⟩ := bind_some h
  obtain ⟨x3, h4, h⟩ := bind_some h
  apply SW_run
  · simp +decide only [E, reduceIte, Nat.reduceAdd, Nat.reduceMul, Bool.not_true, Bool.not_false, bytesD_en, L, ti5, ti9, ti57]
    refine ⟨_, c_impl_BytesToInts (strBytes p1) x1 h2, ?_⟩
    try simp +decide only [E, reduceIte, Nat.reduceAdd, Nat.reduceMul, Bool.not_true, Bool.not_false, bytesD_en, L, ti5, ti9, ti57]
    refine ⟨_, c_impl_KeyedHash p0 x1 x3 h4, ?_⟩
    try simp +decide only [E, reduceIte, Nat.reduceAdd, Nat.reduceMul, Bool.not_true, Bool.not_false, bytesD_en, L, ti5, ti9, ti57]
    exact Is.mk _
  refine an (sq (sq ?_))
  apply SW_run
  · simp +decide only [E, reduceIte, Nat.reduceAdd, Nat.reduceMul, Bool.not_true, Bool.not_false, L]
    exact Is.mk _
  refine an ?_
  rcases bcase (x3 == 0) with b5 | b5
  · replace h := ite_t b5 h
    refine SW_ct (by simp +decide only [F, reduceIte, Nat.reduceAdd, Bool.not_true, Bool.not_false, b5]) ?_
    refine sq ?_
    apply SW_run
    · simp +decide only [E, reduceIte, Nat.reduceAdd, Nat.reduceMul, Bool.not_true, Bool.not_false, L, b5]
      exact Is.mk _
    refine an (rt ?_)
    cases h
    simp [Ret, b5]
  replace h := ite_f b5 h
  refine SW_cf (by simp +decide only [F, reduceIte, Nat.reduceAdd, Bool.not_true, Bool.not_false, b5]) ?_
  refine sk (an (sq ?_))
  apply SW_run
  · simp +decide only [E, reduceIte, Nat.reduceAdd, Nat.reduceMul, Bool.not_true, Bool.not_false, L, b5]
    exact Is.mk _
  refine an (rt ?_)
  cases h
  simp [Ret, b5]

set_option maxHeartbeats 4000000 in
theorem c_impl_BodyOf (p0 : M.Site) (p1 : ByteArray) (p2 : Int) (r : (List Int)) (h : m_impl_BodyOf p0 p1 p2 = some r) : SCalls Try.prog 80 [(true, M.Site.en p0), (false, [.str p1]), (false, [.int .i64 p2])] [(false, [.own 5 1 (List.map enB r)])] := by
  unfold m_impl_BodyOf at h
  simp only [M.Site.en]
  refine scalls_n (N := 33) (vars := [.tmp 6]) Try.func80 rfl rfl rfl (by decide +kernel) (Nat.le_of_ble_eq_true rfl) fun base wd => ?_
  refine sq ?_
  apply SW_run
  · simp +decide only [E, reduceIte, Nat.reduceAdd, Nat.reduceMul, Bool.not_true, Bool.not_false, L]
    exact Is.mk _
  refine an (sq ?_)
  obtain ⟨x1, h2, h⟩ := bind_some h
  obtain ⟨x3, h4, h⟩ := bind_some h
  obtain ⟨x5, h6, h⟩ := bind_some h
  apply SW_run
  · simp +decide only [E, reduceIte, Nat.reduceAdd, Nat.reduceMul, Bool.not_true, Bool.not_false, L, ti3, ti9, ti42, ti79, enI]
    refine ⟨_, c_impl_DeriveFromString 107 p0.Name x1 h2, ?_⟩
    try simp +decide only [E, reduceIte, Nat.reduceAdd, Nat.reduceMul, Bool.not_true, Bool.not_false, L, ti3, ti9, ti42, ti79, enI]
    refine ⟨_, c_impl_DeriveFromString 109 p1 x3 h4, ?_⟩
    try simp +decide only [E, reduceIte, Nat.reduceAdd, Nat.reduceMul, Bool.not_true, Bool.not_false, L, ti3, ti9, ti42, ti79, enI]
    have hc := c_impl_KeyedHash (IntKind.i64.wrap (1 + p2)) ([103, x1, x3]) x5 h6
    simp only [List.map_append, List.map_cons, List.map_nil, enI] at hc
    refine ⟨_, hc, ?_⟩
    try simp +decide only [E, reduceIte, Nat.reduceAdd, Nat.reduceMul, Bool.not_true, Bool.not_false, L, ti3, ti9, ti42, ti79, enI]
    exact Is.mk _
  refine an (sq ?_)
  refine SW_cut (J := fun s => s.t 7 = .v false [.dat (.int .i64 x5)] ∧ True) ?_ ?_
  · refine ⟨?_, trivial⟩ <;> (try simp +decide only [F, reduceIte, Nat.reduceAdd, Bool.not_true, Bool.not_false])
  rintro s7 ⟨f8, _⟩
  apply SW_run
  · simp +decide only [E, reduceIte, Nat.reduceAdd, Nat.reduceMul, Bool.not_true, Bool.not_false, L, ti5, ti57, enB, f8]
    exact Is.mk _
  refine an (sq (sq ?_))
  refine SW_cut (J := fun s => s.t 7 = .v false [.dat (.int .i64 x5)] ∧ s.t 8 = .v false [.row 100019 ((s7.h 100019).1 + 1)] ∧ s.h 100019 = (((s7.h 100019).1 + 1), .row 5 1 (List.map enB ([] : List Int)) true) ∧ True) ?_ ?_
  · refine ⟨?_, ?_, ?_, trivial⟩ <;> (try simp +decide only [F, reduceIte, Nat.reduceAdd, Bool.not_true, Bool.not_false, enB, f8])
  rintro s9 ⟨f10, f11, f12, _⟩
  apply SW_run
  · simp +decide only [E, reduceIte, Nat.reduceAdd, Nat.reduceMul, Bool.not_true, Bool.not_false, L, f10, f11, f12]
    exact Is.mk _
  refine an (bk ?_)
  refine SW_loop (fun m s => ∃ v9 : Int, ∃ r19 : List Int, ∃ u19 : Nat, s.t 7 = .v false [.dat (.int .i64 x5)] ∧ s.t 8 = .v false [.row 100019 u19] ∧ s.t 9 = .v false [.dat (.int .i64 v9)] ∧ s.h 100019 = (u19, .row 5 1 (List.map enB r19) true) ∧ m_impl_BodyOf_L1 x5 m v9 r19 = some r) fuel ?_ ?_
  · refine ⟨5, ([] : List Int), ((s7.h 100019).1 + 1), ?_, ?_, ?_, ?_, h⟩
    all_goals simp +decide only [F, reduceIte, Nat.reduceAdd, Bool.not_true, Bool.not_false, enB, f10, f11, f12]
  rintro mL1 s13 ⟨v9, r19, u19, f14, f15, f16, f17, h⟩
  rcases mL1 with _ | mL1
  · exact absurd h (by simp [m_impl_BodyOf_L1])
  simp only [m_impl_BodyOf_L1] at h
  refine sq (sq ?_)
  apply SW_run
  · simp +decide only [E, reduceIte, Nat.reduceAdd, Nat.reduceMul, Bool.not_true, Bool.not_false, L, f14, f15, f16, f17]
    exact Is.mk _
  refine an ?_
  rcases bcas (decide (v9 ≥ 0)) with b18 | b18
  · replace h := ite_f b18 h
    refine SW_cf (by simp +decide only [F, reduceIte, Nat.reduceAdd, Bool.not_true, Bool.not_false, f14, f15, f16, f17, b18]) ?_
    refine xt (aft_cx (aft_ix (aft_x (an (sq ?_)))))
    apply SW_run
    · simp +decide only [E, reduceIte, Nat.reduceAdd, Nat.reduceMul, Bool.not_true, Bool.not_false, L, f14, f15, f16, f17, b18]
      exact Is.mk _
    refine an (rt ?_)
    cases h
    simp [Ret, enB, f14, f15, f16, f17, b18]
  replace h := ite_t b18 h
  refine SW_ct (by simp +decide only [F, reduceIte, Nat.reduceAdd, Bool.not_true, Bool.not_false, f14, f15, f16, f17, b18]) ?_
  refine sk (an (sq (bk ?_)))
  rcases bcas (decide (0 ≤ (IntKind.i64.wrap (8 * v9)))) with b19 | b19
  · replace h := ite_f b19 h
    cases h
  replace h := ite_t b19 h
  obtain ⟨x20, h21, h⟩ := bind_some h
  apply SW_run
  · simp +decide only [E, reduceIte, Nat.reduceAdd, Nat.reduceMul, Bool.not_true, Bool.not_false, shr_ok, L, ti3, ti5, ti57, enB, f14, f15, f16, f17, b18, b19]
    refine ⟨by (have hb := app_some h21); simp [enB, List.length_append] at hb ⊢ <;> omega, ?_⟩
    try simp +decide only [E, reduceIte, Nat.reduceAdd, Nat.reduceMul, Bool.not_true, Bool.not_false, shr_ok, L, ti3, ti5, ti57, enB, f14, f15, f16, f17, b18, b19]
    exact Is.mk _
  refine ab (an ?_)
  refine SW_cut (J := fun s => s.t 7 = .v false [.dat (.int .i64 x5)] ∧ s.t 8 = .v false [.row 100019 (u19 + 1)] ∧ s.t 9 = .v false [.dat (.int .i64 v9)] ∧ s.h 100019 = ((u19 + 1), .row 5 1 (List.map enB (r19 ++ [(IntKind.u8.wrap (Int.fdiv x5 (2 ^ (min (IntKind.i64.wrap (8 * v9)).toNat IntKind.i64.bits))))])) true) ∧ True) ?_ ?_
  · refine ⟨?_, ?_, ?_, ?_, trivial⟩ <;> (try simp +decide only [F, reduceIte, Nat.reduceAdd, Bool.not_true, Bool.not_false, enB, f14, f15, f16, f17, b18, b19])
  rintro s22 ⟨f23, f24, f25, f26, _⟩
  apply SW_run
  · simp +decide only [E, reduceIte, Nat.reduceAdd, Nat.reduceMul, Bool.not_true, Bool.not_false, L, b18, b19, f23, f24, f25, f26]
    exact Is.mk _
  refine aft_i ⟨mL1, by omega, (IntKind.i64.wrap (v9 - 1)), (r19 ++ [(IntKind.u8.wrap (Int.fdiv x5 (2 ^ (min (IntKind.i64.wrap (8 * v9)).toNat IntKind.i64.bits))))]), (u19 + 1), ?_, ?_, ?_, ?_, h⟩
  all_goals simp +decide only [F, reduceIte, Nat.reduceAdd, Bool.not_true, Bool.not_false, enB, b18, b19, f23, f24, f25, f26]

set_option maxHeartbeats 4000000 in
theorem c_slices_Equal_byte (p0 : List Int) (p1 : List Int) (r : Bool) (h : m_slices_Equal_byte p0 p1 = some r) : SCalls Try.prog 112 [(false, [.sl (List.map enB p0)]), (false, [.sl (List.map enB p1)])] [(false, [.ro (.bool r)])] := by
  unfold m_slices_Equal_byte at h
  refine scalls_n (N := 26) (vars := [.tmp 4]) Try.func112 rfl rfl rfl (by decide +kernel) (Nat.le_of_ble_eq_true rfl) fun base wd => ?_
  refine sq ?_
  apply SW_run
  · simp +decide only [E, reduceIte, Nat.reduceAdd, Nat.reduceMul, Bool.not_true, Bool.not_false, L]
    exact Is.mk _
  refine an (sq (sq ?_))
  apply SW_run
  · simp +decide only [E, reduceIte, Nat.reduceAdd, Nat.reduceMul, Bool.not_true, Bool.not_false, L, ti57]
    exact Is.mk _
  refine an ?_
  rcases bcase ((List.length p0 : Int) != (List.length p1 : Int)) with b1 | b1
  · replace h := ite_t b1 h
    refine SW_ct (by simp +decide only [F, reduceIte, Nat.reduceAdd, Bool.not_true, Bool.not_false, b1]) ?_
    refine sq ?_
    apply SW_run
    · simp +decide only [E, reduceIte, Nat.reduceAdd, Nat.reduceMul, Bool.not_true, Bool.not_false, L, b1]
      exact Is.mk _
    refine an (rt ?_)
    cases h
    simp [Ret, b1]
  replace h := ite_f b1 h
  refine SW_cf (by simp +decide only [F, reduceIte, Nat.reduceAdd, Bool.not_true, Bool.not_false, b1]) ?_
  refine sk (an (sq (sq ?_)))
  apply SW_run
  · simp +decide only [E, reduceIte, Nat.reduceAdd, Nat.reduceMul, Bool.not_true, Bool.not_false, L, ti57, b1]
    exact Is.mk _
  refine an (bk ?_)
  refine SW_loop (fun m s => ∃ v13 : Int, s.t 0 = .v false [.dat (.sl (List.map enB p0))] ∧ s.t 1 = .v false [.dat (.sl (List.map enB p1))] ∧ s.t 12 = .v false [.dat (.int .i64 (List.length p0 : Int))] ∧ s.t 13 = .v false [.dat (.int .i64 v13)] ∧ m_slices_Equal_byte_L1 p0 p1 m v13 = some r) fuel ?_ ?_
  · refine ⟨0, ?_, ?_, ?_, ?_, h⟩
    all_goals simp +decide only [F, reduceIte, Nat.reduceAdd, Bool.not_true, Bool.not_false, b1]
  rintro mL1 s2 ⟨v13, f3, f4, f5, f6, h⟩
  rcases mL1 with _ | mL1
  · exact absurd h (by simp [m_slices_Equal_byte_L1])
  simp only [m_slices_Equal_byte_L1] at h
  refine sq ?_
  apply SW_run
  · simp +decide only [E, reduceIte, Nat.reduceAdd, Nat.reduceMul, Bool.not_true, Bool.not_false, L, b1, f3, f4, f5, f6]
    exact Is.mk _
  refine an (sq ?_)
  rcases bcas (decide (v13 < (List.length p0 : Int))) with b7 | b7
  · replace h := ite_f b7 h
    refine SW_cf (by simp +decide only [F, reduceIte, Nat.reduceAdd, Bool.not_true, Bool.not_false, b1, f3, f4, f5, f6, b7]) ?_
    refine xt (aft_cx (aft_ix (aft_x (an (sq ?_)))))
    apply SW_run
    · simp +decide only [E, reduceIte, Nat.reduceAdd, Nat.reduceMul, Bool.not_true, Bool.not_false, L, b1, f3, f4, f5, f6, b7]
      exact Is.mk _
    refine an (rt ?_)
    cases h
    simp [Ret, b1, f3, f4, f5, f6, b7]
  replace h := ite_t b7 h
  refine SW_ct (by simp +decide only [F, reduceIte, Nat.reduceAdd, Bool.not_true, Bool.not_false, b1, f3, f4, f5, f6, b7]) ?_
  refine sk (an (sq (bk (sq ?_))))
  apply SW_run
  · simp +decide only [E, reduceIte, Nat.reduceAdd, Nat.reduceMul, Bool.not_true, Bool.not_false, L, b1, f3, f4, f5, f6, b7]
    exact Is.mk _
  refine an (sq ?_)
  obtain ⟨x8, h9, h⟩ := bind_some h
  obtain ⟨q10, q11, q12⟩ := idx_some h9
  obtain ⟨x13, h14, h⟩ := bind_some h
  obtain ⟨q15, q16, q17⟩ := idx_some h14
  apply SW_runD mixed
  · simp +decide only [E, reduceIte, Nat.reduceAdd, Nat.reduceMul, Bool.not_true, Bool.not_false, L, ti5, ti57, enB, b1, f3, f4, f5, f6, b7, q10, q11, q12, q15, q16, q17]
    exact ⟨.mk (by decide +kernel), Is.mk _⟩
  refine an ?_
  rcases bcase (x8 != x13) with b18 | b18
  · replace h := ite_t b18 h
    refine SW_ct (by simp +decide only [F, reduceIte, Nat.reduceAdd, Bool.not_true, Bool.not_false, b1, f3, f4, f5, f6, b7, q10, q11, q12, q15, q16, q17, b18]) ?_
    refine sq ?_
    apply SW_run
    · simp +decide only [E, reduceIte, Nat.reduceAdd, Nat.reduceMul, Bool.not_true, Bool.not_false, L, b1, f3, f4, f5, f6, b7, q10, q11, q12, q15, q16, q17, b18]
      exact Is.mk _
    refine an (rt ?_)
    cases h
    simp [Ret, b1, f3, f4, f5, f6, b7, q10, q11, q12, q15, q16, q17, b18]
  replace h := ite_f b18 h
  refine SW_cf (by simp +decide only [F, reduceIte, Nat.reduceAdd, Bool.not_true, Bool.not_false, b1, f3, f4, f5, f6, b7, q10, q11, q12, q15, q16, q17, b18]) ?_
  refine sk (ab (an ?_))
  apply SW_run
  · simp +decide only [E, reduceIte, Nat.reduceAdd, Nat.reduceMul, Bool.not_true, Bool.not_false, L, b1, f3, f4, f5, f6, b7, q10, q11, q12, q15, q16, q17, b18]
    exact Is.mk _
  refine aft_i ⟨mL1, by omega, (IntKind.i64.wrap (v13 + 1)), ?_, ?_, ?_, ?_, h⟩
  all_goals simp +decide only [F, reduceIte, Nat.reduceAdd, Bool.not_true, Bool.not_false, b1, f3, f4, f5, f6, b7, q10, q11, q12, q15, q16, q17, b18]

set_option maxHeartbeats 4000000 in
theorem c_impl_EqualBytes (p0 : List Int) (p1 : List Int) (r : Bool) (h : m_impl_EqualBytes p0 p1 = some r) : SCalls Try.prog 79 [(false, [.sl (List.map enB p0)]), (false, [.sl (List.map enB p1)])] [(false, [.ro (.bool r)])] := by
  unfold m_impl_EqualBytes at h
  refine scalls_n (N := 8) (vars := [.tmp 4]) Try.func79 rfl rfl rfl (by decide +kernel) (Nat.le_of_ble_eq_true rfl) fun base wd => ?_
  refine sq ?_
  apply SW_run
  · simp +decide only [E, reduceIte, Nat.reduceAdd, Nat.reduceMul, Bool.not_true, Bool.not_false, L]
    exact Is.mk _
  refine an (sq ?_)
  obtain ⟨x1, h2, h⟩ := bind_some h
  apply SW_run
  · simp +decide only [E, reduceIte, Nat.reduceAdd, Nat.reduceMul, Bool.not_true, Bool.not_false, L]
    refine ⟨_, c_slices_Equal_byte p0 p1 x1 h2, ?_⟩
    try simp +decide only [E, reduceIte, Nat.reduceAdd, Nat.reduceMul, Bool.not_true, Bool.not_false, L]
    exact Is.mk _
  refine an (rt ?_)
  cases h
  simp [Ret, ]

set_option maxHeartbeats 4000000 in
theorem c_impl_CacheComplete (p0 : M.CacheSet) (p1 : M.Site) (p2 : Int) (r : Bool) (h : m_impl_CacheComplete p0 p1 p2 = some r) : SCalls Try.prog 35 [(true, M.CacheSet.en p0), (true, M.Site.en p1), (false, [.int .i64 p2])] [(false, [.ro (.bool r)])] := by
  unfold m_impl_CacheComplete at h
  simp only [M.CacheSet.en, M.Site.en]
  refine scalls_n (N := 55) (vars := [.tmp 6]) Try.func35 rfl rfl rfl (by decide +kernel) (Nat.le_of_ble_eq_true rfl) fun base wd => ?_
  refine sq ?_
  apply SW_run
  · simp +decide only [E, reduceIte, Nat.reduceAdd, Nat.reduceMul, Bool.not_true, Bool.not_false, L]
    exact Is.mk _
  refine an (sq (sq ?_))
  apply SW_run
  · simp +decide only [E, reduceIte, Nat.reduceAdd, Nat.reduceMul, Bool.not_true, Bool.not_false, L, ti69, ti79]
    exact Is.mk _
  refine an (bk ?_)
  refine SW_loop (fun m s => ∃ v14 : Int, s.t 2 = .v false [.dat (.int .i64 p2)] ∧ s.t 3 = .v false [.bp 3 1 0] ∧ s.t 4 = .v false [.bp 4 1 0] ∧ s.t 12 = .v false [.dat (.sl (List.map enS p1.Files))] ∧ s.t 13 = .v false [.dat (.int .i64 (List.length p1.Files : Int))] ∧ s.t 14 = .v false [.dat (.int .i64 v14)] ∧ s.h 3 = (1, .box 77 [.dat (.sl (List.map M.Cache.en p0.Caches))]) ∧ s.h 4 = (1, .box 79 [.dat (.str p1.Name), .dat (.int .i64 p1.Version), .dat (.sl (List.map enS p1.Files)), .dat (.bool p1.Shared)]) ∧ m_impl_CacheComplete_L1 p0 p1 p2 m v14 = some r) fuel ?_ ?_
  · refine ⟨0, ?_, ?_, ?_, ?_, ?_, ?_, ?_, ?_, h⟩
    all_goals simp +decide only [F, reduceIte, Nat.reduceAdd, Bool.not_true, Bool.not_false]
  rintro mL1 s1 ⟨v14, f2, f3, f4, f5, f6, f7, f8, f9, h⟩
  rcases mL1 with _ | mL1
  · exact absurd h (by simp [m_impl_CacheComplete_L1])
  simp only [m_impl_CacheComplete_L1] at h
  refine sq ?_
  apply SW_run
  · simp +decide only [E, reduceIte, Nat.reduceAdd, Nat.reduceMul, Bool.not_true, Bool.not_false, L, f2, f3, f4, f5, f6, f7, f8, f9]
    exact Is.mk _
  refine an (sq ?_)
  rcases bcas (decide (v14 < (List.length p1.Files : Int))) with b10 | b10
  · replace h := ite_f b10 h
    refine SW_cf (by simp +decide only [F, reduceIte, Nat.reduceAdd, Bool.not_true, Bool.not_false, f2, f3, f4, f5, f6, f7, f8, f9, b10]) ?_
    refine xt (aft_cx (aft_ix (aft_x (an (sq ?_)))))
    obtain ⟨x26, h27, h⟩ := bind_some h
    apply SW_run
    · simp +decide only [E, reduceIte, Nat.reduceAdd, Nat.reduceMul, Bool.not_true, Bool.not_false, L, ti77, f2, f3, f4, f5, f6, f7, f8, f9, b10]
      refine ⟨_, c_impl_FindCache p0 p2 x26 h27, ?_⟩
      try simp +decide only [E, reduceIte, Nat.reduceAdd, Nat.reduceMul, Bool.not_true, Bool.not_false, L, ti77, f2, f3, f4, f5, f6, f7, f8, f9, b10]
      exact Is.mk _
    refine an (rt ?_)
    cases h
    simp [Ret, f2, f3, f4, f5, f6, f7, f8, f9, b10]
  replace h := ite_t b10 h
  refine SW_ct (by simp +decide only [F, reduceIte, Nat.reduceAdd, Bool.not_true, Bool.not_false, f2, f3, f4, f5, f6, f7, f8, f9, b10]) ?_
  refine sk (an (sq (bk (sq ?_))))
  obtain ⟨x11, h12, h⟩ := bind_some h
  obtain ⟨q13, q14, q15⟩ := idx_some h12
  apply SW_run
  · simp +decide only [E, reduceIte, Nat.reduceAdd, Nat.reduceMul, Bool.not_true, Bool.not_false, L, ti9, ti69, enS, f2, f3, f4, f5, f6, f7, f8, f9, b10, q13, q14, q15]
    exact Is.mk _
  refine an (sq ?_)
  obtain ⟨x16, h17, h⟩ := bind_some h
  apply SW_run
  · simp +decide only [E, reduceIte, Nat.reduceAdd, Nat.reduceMul, Bool.not_true, Bool.not_false, L, ti9, ti77, ti79, ti117, f2, f3, f4, f5, f6, f7, f8, f9, b10, q13, q14, q15]
    refine ⟨_, c_impl_MatchCache p0 p2 p1.Name x11 x16 h17, ?_⟩
    try simp +decide only [E, reduceIte, Nat.reduceAdd, Nat.reduceMul, Bool.not_true, Bool.not_false, L, ti9, ti77, ti79, ti117, f2, f3, f4, f5, f6, f7, f8, f9, b10, q13, q14, q15]
    exact Is.mk _
  refine an (sq ?_)
  rcases bcase (!x16.2) with b18 | b18
  · replace h := ite_t b18 h
    apply SW_runD mixed
    · simp +decide only [E, reduceIte, Nat.reduceAdd, Nat.reduceMul, Bool.not_true, Bool.not_false, L, f2, f3, f4, f5, f6, f7, f8, f9, b10, q13, q14, q15, b18]
      exact ⟨.mk (by decide +kernel), Is.mk _⟩
    refine an ?_
    refine SW_ct (by simp +decide only [F, reduceIte, Nat.reduceAdd, Bool.not_true, Bool.not_false, f2, f3, f4, f5, f6, f7, f8, f9, b10, q13, q14, q15, b18]) ?_
    refine sq ?_
    apply SW_run
    · simp +decide only [E, reduceIte, Nat.reduceAdd, Nat.reduceMul, Bool.not_true, Bool.not_false, L, f2, f3, f4, f5, f6, f7, f8, f9, b10, q13, q14, q15, b18]
      exact Is.mk _
    refine an (rt ?_)
    cases h
    simp [Ret, f2, f3, f4, f5, f6, f7, f8, f9, b10, q13, q14, q15, b18]
  replace h := ite_f b18 h
  rcases bcase (x16.1.Status != 200) with b19 | b19
  · replace h := ite_t b19 h
    apply SW_runD mixed
    · simp +decide only [E, reduceIte, Nat.reduceAdd, Nat.reduceMul, Bool.not_true, Bool.not_false, L, ti3, ti117, f2, f3, f4, f5, f6, f7, f8, f9, b10, q13, q14, q15, b18, b19]
      exact ⟨.mk (by decide +kernel), Is.mk _⟩
    refine an ?_
    refine SW_ct (by simp +decide only [F, reduceIte, Nat.reduceAdd, Bool.not_true, Bool.not_false, f2, f3, f4, f5, f6, f7, f8, f9, b10, q13, q14, q15, b18, b19]) ?_
    refine sq ?_
    apply SW_run
    · simp +decide only [E, reduceIte, Nat.reduceAdd, Nat.reduceMul, Bool.not_true, Bool.not_false, L, f2, f3, f4, f5, f6, f7, f8, f9, b10, q13, q14, q15, b18, b19]
      exact Is.mk _
    refine an (rt ?_)
    cases h
    simp [Ret, f2, f3, f4, f5, f6, f7, f8, f9, b10, q13, q14, q15, b18, b19]
  replace h := ite_f b19 h
  rcases bcase (x16.1.Version != p2) with b20 | b20
  · replace h := ite_t b20 h
    apply SW_runD mixed
    · simp +decide only [E, reduceIte, Nat.reduceAdd, Nat.reduceMul, Bool.not_true, Bool.not_false, L, ti3, ti117, f2, f3, f4, f5, f6, f7, f8, f9, b10, q13, q14, q15, b18, b19, b20]
      exact ⟨.mk (by decide +kernel), Is.mk _⟩
    refine an ?_
    refine SW_ct (by simp +decide only [F, reduceIte, Nat.reduceAdd, Bool.not_true, Bool.not_false, f2, f3, f4, f5, f6, f7, f8, f9, b10, q13, q14, q15, b18, b19, b20]) ?_
    refine sq ?_
    apply SW_run
    · simp +decide only [E, reduceIte, Nat.reduceAdd, Nat.reduceMul, Bool.not_true, Bool.not_false, L, f2, f3, f4, f5, f6, f7, f8, f9, b10, q13, q14, q15, b18, b19, b20]
      exact Is.mk _
    refine an (rt ?_)
    cases h
    simp [Ret, f2, f3, f4, f5, f6, f7, f8, f9, b10, q13, q14, q15, b18, b19, b20]
  replace h := ite_f b20 h
  obtain ⟨x21, h22, h⟩ := bind_some h
  obtain ⟨x23, h24, h⟩ := bind_some h
  apply SW_runD mixed
  · simp +decide only [E, reduceIte, Nat.reduceAdd, Nat.reduceMul, Bool.not_true, Bool.not_false, L, ti3, ti57, ti79, ti117, f2, f3, f4, f5, f6, f7, f8, f9, b10, q13, q14, q15, b18, b19, b20]
    refine ⟨_, c_impl_BodyOf p1 x11 p2 x21 h22, ?_⟩
    try simp +decide only [E, reduceIte, Nat.reduceAdd, Nat.reduceMul, Bool.not_true, Bool.not_false, L, ti3, ti57, ti79, ti117, f2, f3, f4, f5, f6, f7, f8, f9, b10, q13, q14, q15, b18, b19, b20]
    refine ⟨_, c_impl_EqualBytes x16.1.Body x21 x23 h24, ?_⟩
    try simp +decide only [E, reduceIte, Nat.reduceAdd, Nat.reduceMul, Bool.not_true, Bool.not_false, L, ti3, ti57, ti79, ti117, f2, f3, f4, f5, f6, f7, f8, f9, b10, q13, q14, q15, b18, b19, b20]
    exact ⟨.mk (by decide +kernel), Is.mk _⟩
  refine an ?_
  rcases bcase (!x23) with b25 | b25
  · replace h := ite_t b25 h
    refine SW_ct (by simp +decide only [F, reduceIte, Nat.reduceAdd, Bool.not_true, Bool.not_false, f2, f3, f4, f5, f6, f7, f8, f9, b10, q13, q14, q15, b18, b19, b20, b25]) ?_
    refine sq ?_
    apply SW_run
    · simp +decide only [E, reduceIte, Nat.reduceAdd, Nat.reduceMul, Bool.not_true, Bool.not_false, L, f2, f3, f4, f5, f6, f7, f8, f9, b10, q13, q14, q15, b18, b19, b20, b25]
      exact Is.mk _
    refine an (rt ?_)
    cases h
    simp [Ret, f2, f3, f4, f5, f6, f7, f8, f9, b10, q13, q14, q15, b18, b19, b20, b25]
  replace h := ite_f b25 h
  refine SW_cf (by simp +decide only [F, reduceIte, Nat.reduceAdd, Bool.not_true, Bool.not_false, f2, f3, f4, f5, f6, f7, f8, f9, b10, q13, q14, q15, b18, b19, b20, b25]) ?_
  refine sk (ab (an ?_))
  apply SW_run
  · simp +decide only [E, reduceIte, Nat.reduceAdd, Nat.reduceMul, Bool.not_true, Bool.not_false, L, f2, f3, f4, f5, f6, f7, f8, f9, b10, q13, q14, q15, b18, b19, b20, b25]
    exact Is.mk _
  refine aft_i ⟨mL1, by omega, (IntKind.i64.wrap (v14 + 1)), ?_, ?_, ?_, ?_, ?_, ?_, ?_, ?_, h⟩
  all_goals simp +decide only [F, reduceIte, Nat.reduceAdd, Bool.not_true, Bool.not_false, f2, f3, f4, f5, f6, f7, f8, f9, b10, q13, q14, q15, b18, b19, b20, b25]

end Go.Proofs.Ytfcfdnmhpdgjfaa.gen
