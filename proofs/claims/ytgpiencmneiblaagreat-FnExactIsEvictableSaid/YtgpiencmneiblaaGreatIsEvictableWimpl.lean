/-
  Helper text: walks: each function's contract out of its model. No conditions beyond those of each contract.
-/
import Derived.Test.YtgpiencmneiblaaGreatIsEvictableTi
namespace Go.Proofs.YtgpiencmneiblaaGreat.gen
open Go Go.Sh
set_option linter.unusedVariables false
set_option linter.unusedSimpArgs false
set_option maxHeartbeats 4000000 in
theorem c_impl_IsEvictable_1 (p0 : M.Page) (c0 : M.Bucket) (r : Bool) (h : m_impl_IsEvictable_1 p0 c0 = some r) : SCalls Tryz.prog 86 [(true, M.Page.en p0), (false, [.ptr [.str c0.Site, .str c0.Top, .str c0.Registration.Site, .int .i64 c0.Registration.Installing, .int .i64 c0.Registration.Waiting, .int .i64 c0.Registration.Active, .sl (List.map M.Cache.en c0.Caches.Caches), .str c0.Disk.Base.Name, .int .i64 c0.Disk.Base.Version, .sl (List.map M.Store.en c0.Disk.Base.Stores), .sl (List.map M.IndexDef.en c0.Disk.Base.Unique), .sl (List.map enB c0.Disk.Log), .int .i64 c0.Disk.Count, .str c0.Replica.Base.Name, .sl (List.map M.Item.en c0.Replica.Base.Items), .int .i64 c0.Replica.Base.Auto, .int .i64 c0.Replica.Seen, .int .i64 c0.Replica.Sync.Outbox.Device, .int .i64 c0.Replica.Sync.Outbox.Next, .sl (List.map M.Write.en c0.Replica.Sync.Outbox.Writes), .int .i64 c0.Replica.Sync.Tries, .int .i64 c0.Replica.Sync.WaitUntil, .int .i64 c0.LastUsed, .bool c0.Persistent]])] [(false, [.ro (.bool r)])] := by
  unfold m_impl_IsEvictable_1 at h
  simp only [M.Page.en]
  refine scalls_n (N := 16) (vars := [.tmp 3]) Tryz.func86 rfl rfl rfl (by decide +kernel) (Nat.le_of_ble_eq_true rfl) fun base wd => ?_
  refine sq ?_
  apply SW_run
  · simp +decide only [E, reduceIte, Nat.reduceAdd, Nat.reduceMul, L]
    exact Is.mk _
  refine an (sq ?_)
  rcases bcase (p0.Site.toList == c0.Site.toList) with b1 | b1
  · replace h := ite_t b1 h
    apply SW_run
    · simp +decide only [E, reduceIte, Nat.reduceAdd, Nat.reduceMul, L, ti9, ti69, ti145, b1]
      exact Is.mk _
    refine an (rt ?_)
    cases h
    simp [Ret, b1]
  replace h := ite_f b1 h
  apply SW_run
  · simp +decide only [E, reduceIte, Nat.reduceAdd, Nat.reduceMul, L, ti9, ti69, ti145, b1]
    exact Is.mk _
  refine an (rt ?_)
  cases h
  simp [Ret, b1]

set_option maxHeartbeats 4000000 in
theorem c_slices_IndexFunc_Page (p0 : List M.Page) (p1 : M.Page → Option Bool) (f1_ : FuncId) (k1_ : List D) (hp1 : ∀ z0 r, p1 z0 = some r → SCalls Tryz.prog f1_ ((true, M.Page.en z0) ::  k1_.map fun c => (false, [c])) [(false, [.ro (.bool r)])]) (r : Int) (h : m_slices_IndexFunc_Page p0 p1 = some r) : SCalls Tryz.prog 165 [(false, [.sl (List.map M.Page.en p0)]), (false, [.fn f1_ k1_])] [(false, [.ro (.int .i64 r)])] := by
  unfold m_slices_IndexFunc_Page at h
  refine scalls_n (N := 19) (vars := [.tmp 4]) Tryz.func165 rfl rfl rfl (by decide +kernel) (Nat.le_of_ble_eq_true rfl) fun base wd => ?_
  refine sq ?_
  apply SW_run
  · simp +decide only [E, reduceIte, Nat.reduceAdd, Nat.reduceMul, L]
    exact Is.mk _
  refine an (sq (sq ?_))
  apply SW_run
  · simp +decide only [E, reduceIte, Nat.reduceAdd, Nat.reduceMul, L, ti89]
    exact Is.mk _
  refine an (bk ?_)
  refine SW_loop (fun m s => ∃ v8 : Int, s.t 0 = .v false [.dat (.sl (List.map M.Page.en p0))] ∧ s.t 1 = .v false [.dat (.fn f1_ k1_)] ∧ s.t 7 = .v false [.dat (.int .i64 (List.length p0 : Int))] ∧ s.t 8 = .v false [.dat (.int .i64 v8)] ∧ m_slices_IndexFunc_Page_L1 p0 p1 m v8 = some r) fuel ?_ ?_
  · refine ⟨0, ?_, ?_, ?_, ?_, h⟩
    all_goals simp +decide only [F, reduceIte, Nat.reduceAdd]
  rintro mL1 s1 ⟨v8, f2, f3, f4, f5, h⟩
  rcases mL1 with _ | mL1
  · exact absurd h (by simp [m_slices_IndexFunc_Page_L1])
  simp only [m_slices_IndexFunc_Page_L1] at h
  refine sq ?_
  apply SW_run
  · simp +decide only [E, reduceIte, Nat.reduceAdd, Nat.reduceMul, L, f2, f3, f4, f5]
    exact Is.mk _
  refine an (sq ?_)
  rcases bcas (decide (v8 < (List.length p0 : Int))) with b6 | b6
  · replace h := ite_f b6 h
    refine SW_cf (by simp +decide only [F, reduceIte, Nat.reduceAdd, f2, f3, f4, f5, b6]) ?_
    refine xt (aft_cx (aft_ix (aft_x (an (sq ?_)))))
    apply SW_run
    · simp +decide only [E, reduceIte, Nat.reduceAdd, Nat.reduceMul, L, f2, f3, f4, f5, b6]
      exact Is.mk _
    refine an (rt ?_)
    cases h
    simp [Ret, f2, f3, f4, f5, b6]
  replace h := ite_t b6 h
  refine SW_ct (by simp +decide only [F, reduceIte, Nat.reduceAdd, f2, f3, f4, f5, b6]) ?_
  refine sk (an (sq (bk (sq ?_))))
  apply SW_run
  · simp +decide only [E, reduceIte, Nat.reduceAdd, Nat.reduceMul, L, f2, f3, f4, f5, b6]
    exact Is.mk _
  refine an (sq ?_)
  obtain ⟨x7, h8, h⟩ := bind_some h
  obtain ⟨q9, q10, q11⟩ := idx_some h8
  obtain ⟨x12, h13, h⟩ := bind_some h
  apply SW_run
  · simp +decide only [E, reduceIte, Nat.reduceAdd, Nat.reduceMul, L, ti89, ti145, M.Page.en, f2, f3, f4, f5, b6, q9, q10, q11]
    refine ⟨_, hp1 x7 x12 h13, ?_⟩
    try simp +decide only [E, reduceIte, Nat.reduceAdd, Nat.reduceMul, L, ti89, ti145, M.Page.en, f2, f3, f4, f5, b6, q9, q10, q11]
    exact Is.mk _
  refine an ?_
  rcases bcase x12 with b14 | b14
  · replace h := ite_t b14 h
    refine SW_ct (by simp +decide only [F, reduceIte, Nat.reduceAdd, f2, f3, f4, f5, b6, q9, q10, q11, b14]) ?_
    refine sq ?_
    apply SW_run
    · simp +decide only [E, reduceIte, Nat.reduceAdd, Nat.reduceMul, L, f2, f3, f4, f5, b6, q9, q10, q11, b14]
      exact Is.mk _
    refine an (rt ?_)
    cases h
    simp [Ret, f2, f3, f4, f5, b6, q9, q10, q11, b14]
  replace h := ite_f b14 h
  refine SW_cf (by simp +decide only [F, reduceIte, Nat.reduceAdd, f2, f3, f4, f5, b6, q9, q10, q11, b14]) ?_
  refine sk (ab (an ?_))
  apply SW_run
  · simp +decide only [E, reduceIte, Nat.reduceAdd, Nat.reduceMul, L, f2, f3, f4, f5, b6, q9, q10, q11, b14]
    exact Is.mk _
  refine aft_i ⟨mL1, by omega, (IntKind.i64.wrap (v8 + 1)), ?_, ?_, ?_, ?_, h⟩
  all_goals simp +decide only [F, reduceIte, Nat.reduceAdd, f2, f3, f4, f5, b6, q9, q10, q11, b14]

set_option maxHeartbeats 4000000 in
theorem c_slices_ContainsFunc_Page (p0 : List M.Page) (p1 : M.Page → Option Bool) (f1_ : FuncId) (k1_ : List D) (hp1 : ∀ z0 r, p1 z0 = some r → SCalls Tryz.prog f1_ ((true, M.Page.en z0) ::  k1_.map fun c => (false, [c])) [(false, [.ro (.bool r)])]) (r : Bool) (h : m_slices_ContainsFunc_Page p0 p1 = some r) : SCalls Tryz.prog 85 [(false, [.sl (List.map M.Page.en p0)]), (false, [.fn f1_ k1_])] [(false, [.ro (.bool r)])] := by
  unfold m_slices_ContainsFunc_Page at h
  refine scalls_n (N := 9) (vars := [.tmp 4]) Tryz.func85 rfl rfl rfl (by decide +kernel) (Nat.le_of_ble_eq_true rfl) fun base wd => ?_
  refine sq ?_
  apply SW_run
  · simp +decide only [E, reduceIte, Nat.reduceAdd, Nat.reduceMul, L]
    exact Is.mk _
  refine an (sq ?_)
  obtain ⟨x1, h2, h⟩ := bind_some h
  apply SW_run
  · simp +decide only [E, reduceIte, Nat.reduceAdd, Nat.reduceMul, L]
    refine ⟨_, c_slices_IndexFunc_Page p0 p1 f1_ k1_ hp1 x1 h2, ?_⟩
    try simp +decide only [E, reduceIte, Nat.reduceAdd, Nat.reduceMul, L]
    exact Is.mk _
  refine an (rt ?_)
  cases h
  simp [Ret, ]

set_option maxHeartbeats 4000000 in
theorem c_impl_IsEvictable (p0 : M.Bucket) (p1 : List M.Page) (p2 : Int) (r : Bool) (h : m_impl_IsEvictable p0 p1 p2 = some r) : SCalls Tryz.prog 31 [(true, M.Bucket.en p0), (false, [.sl (List.map M.Page.en p1)]), (false, [.int .i64 p2])] [(false, [.ro (.bool r)])] := by
  unfold m_impl_IsEvictable at h
  simp only [M.Bucket.en]
  refine scalls_n (N := 34) (vars := [.tmp 6]) Tryz.func31 rfl rfl rfl (by decide +kernel) (Nat.le_of_ble_eq_true rfl) fun base wd => ?_
  refine sq ?_
  apply SW_run
  · simp +decide only [E, reduceIte, Nat.reduceAdd, Nat.reduceMul, L]
    exact Is.mk _
  refine an (sq ?_)
  apply SW_run
  · simp +decide only [E, reduceIte, Nat.reduceAdd, Nat.reduceMul, L]
    exact Is.mk _
  refine an (sq (sq ?_))
  apply SW_run
  · simp +decide only [E, reduceIte, Nat.reduceAdd, Nat.reduceMul, L]
    exact Is.mk _
  refine an ?_
  rcases bcas (decide (p2 ≥ (-1000000000000))) with b1 | b1
  · replace h := ite_f b1 h
    refine SW_cf (by simp +decide only [F, reduceIte, Nat.reduceAdd, b1]) ?_
    refine sk (an (sq (sq ?_)))
    rcases bcase (decide (p0.LastUsed ≥ p2)) with b7 | b7
    · replace h := ite_t b7 h
      apply SW_run
      · simp +decide only [E, reduceIte, Nat.reduceAdd, Nat.reduceMul, L, ti3, ti69, b1, b7]
        exact Is.mk _
      refine an ?_
      refine SW_ct (by simp +decide only [F, reduceIte, Nat.reduceAdd, b1, b7]) ?_
      refine sq ?_
      apply SW_run
      · simp +decide only [E, reduceIte, Nat.reduceAdd, Nat.reduceMul, L, b1, b7]
        exact Is.mk _
      refine an (rt ?_)
      cases h
      simp [Ret, b1, b7]
    replace h := ite_f b7 h
    rcases bcase p0.Persistent with b8 | b8
    · replace h := ite_t b8 h
      apply SW_run
      · simp +decide only [E, reduceIte, Nat.reduceAdd, Nat.reduceMul, L, ti3, ti4, ti69, b1, b7, b8]
        exact Is.mk _
      refine an ?_
      refine SW_ct (by simp +decide only [F, reduceIte, Nat.reduceAdd, b1, b7, b8]) ?_
      refine sq ?_
      apply SW_run
      · simp +decide only [E, reduceIte, Nat.reduceAdd, Nat.reduceMul, L, b1, b7, b8]
        exact Is.mk _
      refine an (rt ?_)
      cases h
      simp [Ret, b1, b7, b8]
    replace h := ite_f b8 h
    apply SW_run
    · simp +decide only [E, reduceIte, Nat.reduceAdd, Nat.reduceMul, L, ti3, ti4, ti61, ti63, ti65, ti67, ti69, b1, b7, b8]
      exact Is.mk _
    refine an ?_
    rcases bcase (decide ((List.length p0.Replica.Sync.Outbox.Writes : Int) > 0)) with b9 | b9
    · replace h := ite_t b9 h
      refine SW_ct (by simp +decide only [F, reduceIte, Nat.reduceAdd, b1, b7, b8, b9]) ?_
      refine sq ?_
      apply SW_run
      · simp +decide only [E, reduceIte, Nat.reduceAdd, Nat.reduceMul, L, b1, b7, b8, b9]
        exact Is.mk _
      refine an (rt ?_)
      cases h
      simp [Ret, b1, b7, b8, b9]
    replace h := ite_f b9 h
    refine SW_cf (by simp +decide only [F, reduceIte, Nat.reduceAdd, b1, b7, b8, b9]) ?_
    refine sk (an (sq ?_))
    obtain ⟨x10, h11, h⟩ := bind_some h
    apply SW_run
    · simp +decide only [E, reduceIte, Nat.reduceAdd, Nat.reduceMul, L, b1, b7, b8, b9]
      have hc := c_slices_ContainsFunc_Page p1 (fun z0 => m_impl_IsEvictable_1 z0 p0) 86 [.ptr [.str p0.Site, .str p0.Top, .str p0.Registration.Site, .int .i64 p0.Registration.Installing, .int .i64 p0.Registration.Waiting, .int .i64 p0.Registration.Active, .sl (List.map M.Cache.en p0.Caches.Caches), .str p0.Disk.Base.Name, .int .i64 p0.Disk.Base.Version, .sl (List.map M.Store.en p0.Disk.Base.Stores), .sl (List.map M.IndexDef.en p0.Disk.Base.Unique), .sl (List.map enB p0.Disk.Log), .int .i64 p0.Disk.Count, .str p0.Replica.Base.Name, .sl (List.map M.Item.en p0.Replica.Base.Items), .int .i64 p0.Replica.Base.Auto, .int .i64 p0.Replica.Seen, .int .i64 p0.Replica.Sync.Outbox.Device, .int .i64 p0.Replica.Sync.Outbox.Next, .sl (List.map M.Write.en p0.Replica.Sync.Outbox.Writes), .int .i64 p0.Replica.Sync.Tries, .int .i64 p0.Replica.Sync.WaitUntil, .int .i64 p0.LastUsed, .bool p0.Persistent]] (fun z0 r hr => c_impl_IsEvictable_1 z0 p0 r hr) x10 h11
      simp only [b8] at hc
      refine ⟨_, hc, ?_⟩
      try simp +decide only [E, reduceIte, Nat.reduceAdd, Nat.reduceMul, L, b1, b7, b8, b9]
      exact Is.mk _
    refine an (rt ?_)
    cases h
    simp [Ret, b1, b7, b8, b9]
  replace h := ite_t b1 h
  refine SW_ct (by simp +decide only [F, reduceIte, Nat.reduceAdd, b1]) ?_
  apply SW_run
  · simp +decide only [E, reduceIte, Nat.reduceAdd, Nat.reduceMul, L, b1]
    exact Is.mk _
  refine an (sq (sq ?_))
  rcases bcase (decide (p0.LastUsed ≥ (IntKind.i64.wrap (p2 - 30)))) with b2 | b2
  · replace h := ite_t b2 h
    apply SW_run
    · simp +decide only [E, reduceIte, Nat.reduceAdd, Nat.reduceMul, L, ti3, ti69, b1, b2]
      exact Is.mk _
    refine an ?_
    refine SW_ct (by simp +decide only [F, reduceIte, Nat.reduceAdd, b1, b2]) ?_
    refine sq ?_
    apply SW_run
    · simp +decide only [E, reduceIte, Nat.reduceAdd, Nat.reduceMul, L, b1, b2]
      exact Is.mk _
    refine an (rt ?_)
    cases h
    simp [Ret, b1, b2]
  replace h := ite_f b2 h
  rcases bcase p0.Persistent with b3 | b3
  · replace h := ite_t b3 h
    apply SW_run
    · simp +decide only [E, reduceIte, Nat.reduceAdd, Nat.reduceMul, L, ti3, ti4, ti69, b1, b2, b3]
      exact Is.mk _
    refine an ?_
    refine SW_ct (by simp +decide only [F, reduceIte, Nat.reduceAdd, b1, b2, b3]) ?_
    refine sq ?_
    apply SW_run
    · simp +decide only [E, reduceIte, Nat.reduceAdd, Nat.reduceMul, L, b1, b2, b3]
      exact Is.mk _
    refine an (rt ?_)
    cases h
    simp [Ret, b1, b2, b3]
  replace h := ite_f b3 h
  apply SW_run
  · simp +decide only [E, reduceIte, Nat.reduceAdd, Nat.reduceMul, L, ti3, ti4, ti61, ti63, ti65, ti67, ti69, b1, b2, b3]
    exact Is.mk _
  refine an ?_
  rcases bcase (decide ((List.length p0.Replica.Sync.Outbox.Writes : Int) > 0)) with b4 | b4
  · replace h := ite_t b4 h
    refine SW_ct (by simp +decide only [F, reduceIte, Nat.reduceAdd, b1, b2, b3, b4]) ?_
    refine sq ?_
    apply SW_run
    · simp +decide only [E, reduceIte, Nat.reduceAdd, Nat.reduceMul, L, b1, b2, b3, b4]
      exact Is.mk _
    refine an (rt ?_)
    cases h
    simp [Ret, b1, b2, b3, b4]
  replace h := ite_f b4 h
  refine SW_cf (by simp +decide only [F, reduceIte, Nat.reduceAdd, b1, b2, b3, b4]) ?_
  refine sk (an (sq ?_))
  obtain ⟨x5, h6, h⟩ := bind_some h
  apply SW_run
  · simp +decide only [E, reduceIte, Nat.reduceAdd, Nat.reduceMul, L, b1, b2, b3, b4]
    have hc := c_slices_ContainsFunc_Page p1 (fun z0 => m_impl_IsEvictable_1 z0 p0) 86 [.ptr [.str p0.Site, .str p0.Top, .str p0.Registration.Site, .int .i64 p0.Registration.Installing, .int .i64 p0.Registration.Waiting, .int .i64 p0.Registration.Active, .sl (List.map M.Cache.en p0.Caches.Caches), .str p0.Disk.Base.Name, .int .i64 p0.Disk.Base.Version, .sl (List.map M.Store.en p0.Disk.Base.Stores), .sl (List.map M.IndexDef.en p0.Disk.Base.Unique), .sl (List.map enB p0.Disk.Log), .int .i64 p0.Disk.Count, .str p0.Replica.Base.Name, .sl (List.map M.Item.en p0.Replica.Base.Items), .int .i64 p0.Replica.Base.Auto, .int .i64 p0.Replica.Seen, .int .i64 p0.Replica.Sync.Outbox.Device, .int .i64 p0.Replica.Sync.Outbox.Next, .sl (List.map M.Write.en p0.Replica.Sync.Outbox.Writes), .int .i64 p0.Replica.Sync.Tries, .int .i64 p0.Replica.Sync.WaitUntil, .int .i64 p0.LastUsed, .bool p0.Persistent]] (fun z0 r hr => c_impl_IsEvictable_1 z0 p0 r hr) x5 h6
    simp only [b3] at hc
    refine ⟨_, hc, ?_⟩
    try simp +decide only [E, reduceIte, Nat.reduceAdd, Nat.reduceMul, L, b1, b2, b3, b4]
    exact Is.mk _
  refine an (rt ?_)
  cases h
  simp [Ret, b1, b2, b3, b4]

end Go.Proofs.YtgpiencmneiblaaGreat.gen
