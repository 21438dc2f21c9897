/-
  Helper text: walks: each function's contract out of its model. No conditions beyond those of each contract.
-/
import Derived.Test.YtgpiencmneiblaaGreatEvictOldTi
namespace Go.Proofs.YtgpiencmneiblaaGreat.gen
open Go Go.Sh
set_option linter.unusedVariables false
set_option linter.unusedSimpArgs false
set_option maxHeartbeats 4000000 in
theorem c_impl_IsEvictable_1 (p0 : M.Page) (c0 : M.Bucket) (r : Bool) (h : m_impl_IsEvictable_1 p0 c0 = some r) : SCalls Tryz.prog 86 [(true, M.Page.en p0), (false, [.ptr [.str c0.Site, .str c0.Top, .str c0.Registration.Site, .int .i64 c0.Registration.Installing, .int .i64 c0.Registration.Waiting, .int .i64 c0.Registration.Active, .sl (List.map M.Cache.en c0.Caches.Caches), .str c0.Disk.Base.Name, .int .i64 c0.Disk.Base.Version, .sl (List.map M.Store.en c0.Disk.Base.Stores), .sl (List.map M.IndexDef.en c0.Disk.Base.Unique), .sl (List.map enB c0.Disk.Log), .int .i64 c0.Disk.Count, .str c0.Replica.Base.Name, .sl (List.map M.Item.en c0.Replica.Base.Items), .int .i64 c0.Replica.Base.Auto, .int .i64 c0.Replica.Seen, .int .i64 c0.Replica.Sync.Outbox.Device, .int .i64 c0.Replica.Sync.Outbox.Next, .sl (List.map M.Write.en c0.Replica.Sync.Outbox.Writes), .int .i64 c0.Replica.Sync.Tries, .int .i64 c0.Replica.Sync.WaitUntil, .int .i64 c0.LastUsed, .bool c0.Persistent]])] [(false, [.ro (.bool r)])] := by
  unfold m_impl_IsEvictable_1 at h
  simp only [M.Page.en]
  refine scalls_n (N := 16) (vars := [.tmp 3]) Tryz.func86 rfl rfl rfl (by decide +kernel) (Nat.le_of_ble_eq_true rfl) fun base wd => ?_
  refine sq (rn ?_)
  refine an (sq ?_)
  rcases bcase (p0.Site.toList == c0.Site.toList) with b1 | b1
  · replace h := ite_t b1 h
    refine rn ?_
    refine an (rt ?_)
    cases h
    simp [Ret, TB, EN, *]
  replace h := ite_f b1 h
  refine rn ?_
  refine an (rt ?_)
  cases h
  simp [Ret, TB, EN, *]

set_option maxHeartbeats 4000000 in
theorem c_slices_IndexFunc_Page (p0 : List M.Page) (p1 : M.Page → Option Bool) (f1_ : FuncId) (k1_ : List D) (hp1 : ∀ z0 r, p1 z0 = some r → SCalls Tryz.prog f1_ ((true, M.Page.en z0) ::  k1_.map fun c => (false, [c])) [(false, [.ro (.bool r)])]) (r : Int) (h : m_slices_IndexFunc_Page p0 p1 = some r) : SCalls Tryz.prog 165 [(false, [.sl (List.map M.Page.en p0)]), (false, [.fn f1_ k1_])] [(false, [.ro (.int .i64 r)])] := by
  unfold m_slices_IndexFunc_Page at h
  refine scalls_n (N := 19) (vars := [.tmp 4]) Tryz.func165 rfl rfl rfl (by decide +kernel) (Nat.le_of_ble_eq_true rfl) fun base wd => ?_
  refine sq (rn ?_)
  refine an (sq (sq (rn ?_)))
  refine an (bk ?_)
  refine SW_loop (fun m s => ∃ v8 : Int, s.t 0 = .v false [.dat (.sl (List.map M.Page.en p0))] ∧ s.t 1 = .v false [.dat (.fn f1_ k1_)] ∧ s.t 7 = .v false [.dat (.int .i64 (List.length p0 : Int))] ∧ s.t 8 = .v false [.dat (.int .i64 v8)] ∧ m_slices_IndexFunc_Page_L1 p0 p1 m v8 = some r) fuel ?_ ?_
  · refine ⟨0, ?_, ?_, ?_, ?_, h⟩
    all_goals simp +decide only [F, reduceIte, Nat.reduceAdd, Bool.not_true, Bool.not_false, EN, *, -h]
  rintro mL1 s1 ⟨v8, f2, f3, f4, f5, h⟩
  rcases mL1 with _ | mL1
  · exact absurd h (by simp [m_slices_IndexFunc_Page_L1])
  simp only [m_slices_IndexFunc_Page_L1] at h
  refine sq (rn ?_)
  refine an (sq ?_)
  rcases bcas (decide (v8 < (List.length p0 : Int))) with b6 | b6
  · replace h := ite_f b6 h
    refine cf (xt (aft_cx (aft_ix (aft_x (an (sq (rn ?_)))))))
    refine an (rt ?_)
    cases h
    simp [Ret, TB, EN, *]
  replace h := ite_t b6 h
  refine ct (sk (an (sq (bk (sq (rn ?_))))))
  refine an (sq ?_)
  obtain ⟨x7, h8, h⟩ := bind_some h
  obtain ⟨q9, q10, q11⟩ := idx_some h8
  obtain ⟨x12, h13, h⟩ := bind_some h
  refine rn1 (hp1 x7 x12 h13) ?_
  refine an ?_
  rcases bcase x12 with b14 | b14
  · replace h := ite_t b14 h
    refine ct (sq (rn ?_))
    refine an (rt ?_)
    cases h
    simp [Ret, TB, EN, *]
  replace h := ite_f b14 h
  refine cf (sk (ab (an (rn ?_))))
  refine aft_i ⟨mL1, by omega, (IntKind.i64.wrap (v8 + 1)), ?_, ?_, ?_, ?_, h⟩
  all_goals simp +decide only [F, reduceIte, Nat.reduceAdd, Bool.not_true, Bool.not_false, EN, *, -h]

set_option maxHeartbeats 4000000 in
theorem c_slices_ContainsFunc_Page (p0 : List M.Page) (p1 : M.Page → Option Bool) (f1_ : FuncId) (k1_ : List D) (hp1 : ∀ z0 r, p1 z0 = some r → SCalls Tryz.prog f1_ ((true, M.Page.en z0) ::  k1_.map fun c => (false, [c])) [(false, [.ro (.bool r)])]) (r : Bool) (h : m_slices_ContainsFunc_Page p0 p1 = some r) : SCalls Tryz.prog 85 [(false, [.sl (List.map M.Page.en p0)]), (false, [.fn f1_ k1_])] [(false, [.ro (.bool r)])] := by
  unfold m_slices_ContainsFunc_Page at h
  refine scalls_n (N := 9) (vars := [.tmp 4]) Tryz.func85 rfl rfl rfl (by decide +kernel) (Nat.le_of_ble_eq_true rfl) fun base wd => ?_
  refine sq (rn ?_)
  refine an (sq ?_)
  obtain ⟨x1, h2, h⟩ := bind_some h
  refine rn1 (c_slices_IndexFunc_Page p0 p1 f1_ k1_ hp1 x1 h2) ?_
  refine an (rt ?_)
  cases h
  simp [Ret, TB, EN, *]

set_option maxHeartbeats 4000000 in
theorem c_impl_IsEvictable (p0 : M.Bucket) (p1 : List M.Page) (p2 : Int) (r : Bool) (h : m_impl_IsEvictable p0 p1 p2 = some r) : SCalls Tryz.prog 31 [(true, M.Bucket.en p0), (false, [.sl (List.map M.Page.en p1)]), (false, [.int .i64 p2])] [(false, [.ro (.bool r)])] := by
  unfold m_impl_IsEvictable at h
  simp only [M.Bucket.en]
  refine scalls_n (N := 34) (vars := [.tmp 6]) Tryz.func31 rfl rfl rfl (by decide +kernel) (Nat.le_of_ble_eq_true rfl) fun base wd => ?_
  refine sq (rn ?_)
  refine an (sq (rn ?_))
  refine an (sq (sq (rn ?_)))
  refine an ?_
  rcases bcas (decide (p2 ≥ (-1000000000000))) with b1 | b1
  · replace h := ite_f b1 h
    refine cf (sk (an (sq (sq ?_))))
    rcases bcase (decide (p0.LastUsed ≥ p2)) with b7 | b7
    · replace h := ite_t b7 h
      refine rn ?_
      refine an (ct (sq (rn ?_)))
      refine an (rt ?_)
      cases h
      simp [Ret, TB, EN, *]
    replace h := ite_f b7 h
    rcases bcase p0.Persistent with b8 | b8
    · replace h := ite_t b8 h
      refine rn ?_
      refine an (ct (sq (rn ?_)))
      refine an (rt ?_)
      cases h
      simp [Ret, TB, EN, *]
    replace h := ite_f b8 h
    refine rn ?_
    refine an ?_
    rcases bcase (decide ((List.length p0.Replica.Sync.Outbox.Writes : Int) > 0)) with b9 | b9
    · replace h := ite_t b9 h
      refine ct (sq (rn ?_))
      refine an (rt ?_)
      cases h
      simp [Ret, TB, EN, *]
    replace h := ite_f b9 h
    refine cf (sk (an (sq ?_)))
    obtain ⟨x10, h11, h⟩ := bind_some h
    refine rn1 (c_slices_ContainsFunc_Page p1 (fun z0 => m_impl_IsEvictable_1 z0 p0) 86 [.ptr [.str p0.Site, .str p0.Top, .str p0.Registration.Site, .int .i64 p0.Registration.Installing, .int .i64 p0.Registration.Waiting, .int .i64 p0.Registration.Active, .sl (List.map M.Cache.en p0.Caches.Caches), .str p0.Disk.Base.Name, .int .i64 p0.Disk.Base.Version, .sl (List.map M.Store.en p0.Disk.Base.Stores), .sl (List.map M.IndexDef.en p0.Disk.Base.Unique), .sl (List.map enB p0.Disk.Log), .int .i64 p0.Disk.Count, .str p0.Replica.Base.Name, .sl (List.map M.Item.en p0.Replica.Base.Items), .int .i64 p0.Replica.Base.Auto, .int .i64 p0.Replica.Seen, .int .i64 p0.Replica.Sync.Outbox.Device, .int .i64 p0.Replica.Sync.Outbox.Next, .sl (List.map M.Write.en p0.Replica.Sync.Outbox.Writes), .int .i64 p0.Replica.Sync.Tries, .int .i64 p0.Replica.Sync.WaitUntil, .int .i64 p0.LastUsed, .bool p0.Persistent]] (fun z0 r hr => c_impl_IsEvictable_1 z0 p0 r hr) x10 h11) ?_
    refine an (rt ?_)
    cases h
    simp [Ret, TB, EN, *]
  replace h := ite_t b1 h
  refine ct (rn ?_)
  refine an (sq (sq ?_))
  rcases bcase (decide (p0.LastUsed ≥ (IntKind.i64.wrap (p2 - 30)))) with b2 | b2
  · replace h := ite_t b2 h
    refine rn ?_
    refine an (ct (sq (rn ?_)))
    refine an (rt ?_)
    cases h
    simp [Ret, TB, EN, *]
  replace h := ite_f b2 h
  rcases bcase p0.Persistent with b3 | b3
  · replace h := ite_t b3 h
    refine rn ?_
    refine an (ct (sq (rn ?_)))
    refine an (rt ?_)
    cases h
    simp [Ret, TB, EN, *]
  replace h := ite_f b3 h
  refine rn ?_
  refine an ?_
  rcases bcase (decide ((List.length p0.Replica.Sync.Outbox.Writes : Int) > 0)) with b4 | b4
  · replace h := ite_t b4 h
    refine ct (sq (rn ?_))
    refine an (rt ?_)
    cases h
    simp [Ret, TB, EN, *]
  replace h := ite_f b4 h
  refine cf (sk (an (sq ?_)))
  obtain ⟨x5, h6, h⟩ := bind_some h
  refine rn1 (c_slices_ContainsFunc_Page p1 (fun z0 => m_impl_IsEvictable_1 z0 p0) 86 [.ptr [.str p0.Site, .str p0.Top, .str p0.Registration.Site, .int .i64 p0.Registration.Installing, .int .i64 p0.Registration.Waiting, .int .i64 p0.Registration.Active, .sl (List.map M.Cache.en p0.Caches.Caches), .str p0.Disk.Base.Name, .int .i64 p0.Disk.Base.Version, .sl (List.map M.Store.en p0.Disk.Base.Stores), .sl (List.map M.IndexDef.en p0.Disk.Base.Unique), .sl (List.map enB p0.Disk.Log), .int .i64 p0.Disk.Count, .str p0.Replica.Base.Name, .sl (List.map M.Item.en p0.Replica.Base.Items), .int .i64 p0.Replica.Base.Auto, .int .i64 p0.Replica.Seen, .int .i64 p0.Replica.Sync.Outbox.Device, .int .i64 p0.Replica.Sync.Outbox.Next, .sl (List.map M.Write.en p0.Replica.Sync.Outbox.Writes), .int .i64 p0.Replica.Sync.Tries, .int .i64 p0.Replica.Sync.WaitUntil, .int .i64 p0.LastUsed, .bool p0.Persistent]] (fun z0 r hr => c_impl_IsEvictable_1 z0 p0 r hr) x5 h6) ?_
  refine an (rt ?_)
  cases h
  simp [Ret, TB, EN, *]

set_option maxHeartbeats 4000000 in
theorem c_impl_copyBytes (p0 : List Int) (r : (List Int)) (h : m_impl_copyBytes p0 = some r) : SCalls Tryz.prog 272 [(false, [.sl (List.map enB p0)])] [(false, [.own 5 1 (List.map enB r)])] := by
  unfold m_impl_copyBytes at h
  refine scalls_n (N := 6) (vars := [.tmp 2]) Tryz.func272 rfl rfl rfl (by decide +kernel) (Nat.le_of_ble_eq_true rfl) fun base wd => ?_
  refine sq (rn ?_)
  refine an (sq ?_)
  obtain ⟨x1, h2, h⟩ := bind_some h
  refine rn1 h2 ?_
  refine an (rt ?_)
  cases h
  simp [Ret, TB, EN, *]

set_option maxHeartbeats 4000000 in
theorem c_impl_copyResponse (p0 : M.Response) (r : M.Response) (h : m_impl_copyResponse p0 = some r) : SCalls Tryz.prog 270 [(true, M.Response.en p0)] [(true, [.ro (.int .i64 r.Type_), .ro (.int .i64 r.Status), .ro (.int .i64 r.Version), .own 5 1 (List.map enB r.Body), .ro (.bool r.Shares)])] := by
  unfold m_impl_copyResponse at h
  simp only [M.Response.en]
  refine scalls_n (N := 8) (vars := [.cell 2 187]) Tryz.func270 rfl rfl rfl (by decide +kernel) (Nat.le_of_ble_eq_true rfl) fun base wd => ?_
  refine sq (rn ?_)
  refine an (sq ?_)
  obtain ⟨x1, h2, h⟩ := bind_some h
  refine rn1 (c_impl_copyBytes _ _ h2) ?_
  refine an (sq (rn ?_))
  refine an (rt ?_)
  cases h
  simp [Ret, TB, EN, *]

set_option maxHeartbeats 4000000 in
theorem c_impl_copyCacheSet (p0 : M.CacheSet) (r : M.CacheSet) (h : m_impl_copyCacheSet p0 = some r) : SCalls Tryz.prog 191 [(true, M.CacheSet.en p0)] [(true, [.own 185 2 (List.map M.Cache.en r.Caches)])] := by
  unfold m_impl_copyCacheSet at h
  simp only [M.CacheSet.en]
  refine scalls_n (N := 46) (vars := [.cell 2 51]) Tryz.func191 rfl rfl rfl (by decide +kernel) (Nat.le_of_ble_eq_true rfl) fun base wd => ?_
  refine sq (rn ?_)
  refine an (sq (rn ?_))
  refine an (sq (sq (rn ?_)))
  refine an (bk ?_)
  refine SW_gho ((Gho.own_b (b := 3) (c := 0) (K := 7030000) 185 2 (by simp +decide only [F, reduceIte, Nat.reduceAdd, Bool.not_true, Bool.not_false, EN, *, -h]; rfl) rfl (by decide))) ?_
  refine SW_loopG (fun m s => ∃ v13 : Int, ∃ r30000 : List M.Cache, ∃ u30000 : Nat, s.t 2 = .v false [.bp 2 1 0] ∧ s.t 3 = .v false [.bp 3 1 0] ∧ s.t 11 = .v false [.dat (.sl (List.map M.Cache.en p0.Caches))] ∧ s.t 12 = .v false [.dat (.int .i64 (List.length p0.Caches : Int))] ∧ s.t 13 = .v false [.dat (.int .i64 v13)] ∧ s.h 2 = (1, .box 51 [.nil]) ∧ s.h 3 = (1, .box 51 [.row 7030000 u30000]) ∧ s.h 7030000 = (u30000, .row 185 2 (List.map M.Cache.en r30000) true) ∧ m_impl_copyCacheSet_L1 p0 m v13 r30000 = some r) fuel ?_ ?_
  · refine ⟨0, ([] : List M.Cache), 1, ?_, ?_, ?_, ?_, ?_, ?_, ?_, ?_, h⟩
    all_goals simp +decide only [F, reduceIte, Nat.reduceAdd, Bool.not_true, Bool.not_false, EN, *, -h]
  rintro mL1 s1 ⟨v13, r30000, u30000, f2, f3, f4, f5, f6, f7, f8, f9, h⟩
  rcases mL1 with _ | mL1
  · exact absurd h (by simp [m_impl_copyCacheSet_L1])
  simp only [m_impl_copyCacheSet_L1] at h
  refine sq (rn ?_)
  refine an (sq ?_)
  rcases bcas (decide (v13 < (List.length p0.Caches : Int))) with b10 | b10
  · replace h := ite_f b10 h
    refine cf (xt (aft_cx (aft_ix (aft_x (an (sq (rn ?_)))))))
    refine an (rt ?_)
    cases h
    simp [Ret, TB, EN, *]
  replace h := ite_t b10 h
  refine ct (sk (an (sq (bk (sq ?_)))))
  obtain ⟨x11, h12, h⟩ := bind_some h
  obtain ⟨q13, q14, q15⟩ := idx_some h12
  refine rn ?_
  refine an (sq (rn ?_))
  refine an (sq (sq (rn ?_)))
  refine an (bk ?_)
  obtain ⟨k17, e18, h⟩ := absk (f := fun kk => m_impl_copyCacheSet_L2 x11 kk fuel 0 ([] : List M.Cached)) h
  refine SW_gho ((Gho.own_b (b := 6) (c := 1) (K := 7060000) 189 7 (by simp +decide only [F, reduceIte, Nat.reduceAdd, Bool.not_true, Bool.not_false, EN, *, -h]; rfl) rfl (by decide))) ?_
  refine SW_loopG (fun m s => ∃ v23_L2 : Int, ∃ r60000_L2 : List M.Cached, ∃ u60000_L2 : Nat, s.t 2 = .v false [.bp 2 1 0] ∧ s.t 3 = .v false [.bp 3 1 0] ∧ s.t 6 = .v false [.bp 6 ((s1.h 6).1 + 1) 0] ∧ s.t 11 = .v false [.dat (.sl (List.map M.Cache.en p0.Caches))] ∧ s.t 12 = .v false [.dat (.int .i64 (List.length p0.Caches : Int))] ∧ s.t 13 = .v false [.dat (.int .i64 v13)] ∧ s.t 21 = .v false [.dat (.sl (List.map M.Cached.en x11.Entries))] ∧ s.t 22 = .v false [.dat (.int .i64 (List.length x11.Entries : Int))] ∧ s.t 23 = .v false [.dat (.int .i64 v23_L2)] ∧ s.h 2 = (1, .box 51 [.nil]) ∧ s.h 3 = (1, .box 51 [.row 7030000 u30000]) ∧ s.h 6 = (((s1.h 6).1 + 1), .box 185 [.dat (.int .i64 x11.Version), .row 7060000 u60000_L2]) ∧ s.h 7030000 = (u30000, .row 185 2 (List.map M.Cache.en r30000) true) ∧ s.h 7060000 = (u60000_L2, .row 189 7 (List.map M.Cached.en r60000_L2) true) ∧ m_impl_copyCacheSet_L2 x11 k17 m v23_L2 r60000_L2 = some r) fuel ?_ ?_
  · refine ⟨0, ([] : List M.Cached), ((s1.h 7060000).1 + 1), ?_, ?_, ?_, ?_, ?_, ?_, ?_, ?_, ?_, ?_, ?_, ?_, ?_, ?_, h⟩
    all_goals simp +decide only [F, reduceIte, Nat.reduceAdd, Bool.not_true, Bool.not_false, EN, *, -h]
  rintro mL2 s16 ⟨v23_L2, r60000_L2, u60000_L2, f19, f20, f21, f22, f23, f24, f25, f26, f27, f28, f29, f30, f31, f32, h⟩
  rcases mL2 with _ | mL2
  · exact absurd h (by simp [m_impl_copyCacheSet_L2])
  simp only [m_impl_copyCacheSet_L2] at h
  refine sq (rn ?_)
  refine an (sq ?_)
  rcases bcas (decide (v23_L2 < (List.length x11.Entries : Int))) with b33 | b33
  · replace h := ite_f b33 h
    refine cf (xt (aft_cx ?_))
    subst e18
    refine aft_ix (aft_x (an ?_))
    obtain ⟨x58, h59, h⟩ := bind_some h
    refine rn1 h59 ?_
    refine ab (an ?_)
    refine cu (fun s => s.t 2 = .v false [.bp 2 1 0] ∧ s.t 3 = .v false [.bp 3 1 0] ∧ s.t 11 = .v false [.dat (.sl (List.map M.Cache.en p0.Caches))] ∧ s.t 12 = .v false [.dat (.int .i64 (List.length p0.Caches : Int))] ∧ s.t 13 = .v false [.dat (.int .i64 v13)] ∧ s.h 2 = (1, .box 51 [.nil]) ∧ s.h 3 = (1, .box 51 [.row 7030000 (u30000 + 1)]) ∧ s.h 7030000 = ((u30000 + 1), .row 185 2 (List.map M.Cache.en (r30000 ++ [(⟨x11.Version, r60000_L2⟩ : M.Cache)])) true) ∧ True) ?_
    rintro s60 ⟨f61, f62, f63, f64, f65, f66, f67, f68, _⟩
    refine rn ?_
    refine aft_i ⟨_, (Gho.ren_b (b := 3) (c := 0) (K := 7030000) (j := 7030000) (by simp +decide only [F, reduceIte, Nat.reduceAdd, Bool.not_true, Bool.not_false, EN, *, -h]; rfl) rfl (by simp +decide only [F, reduceIte, Nat.reduceAdd, Bool.not_true, Bool.not_false, EN, *, -h]; rfl) (by decide)), mL1, by omega, (IntKind.i64.wrap (v13 + 1)), (r30000 ++ [(⟨x11.Version, r60000_L2⟩ : M.Cache)]), ((u30000 + 1) + 1), ?_, ?_, ?_, ?_, ?_, ?_, ?_, ?_, h⟩
    all_goals simp +decide only [F, reduceIte, Nat.reduceAdd, Bool.not_true, Bool.not_false, EN, *, -h]
  replace h := ite_t b33 h
  refine ct (sk (an (sq (bk (sq ?_)))))
  obtain ⟨x34, h35, h⟩ := bind_some h
  obtain ⟨q36, q37, q38⟩ := idx_some h35
  refine rn ?_
  refine an (sq ?_)
  obtain ⟨x39, h40, h⟩ := bind_some h
  refine rn1 (c_impl_copyResponse _ _ h40) ?_
  refine an ?_
  obtain ⟨x41, h42, h⟩ := bind_some h
  refine rn1 h42 ?_
  refine ab (an ?_)
  refine cu (fun s => s.t 2 = .v false [.bp 2 1 0] ∧ s.t 3 = .v false [.bp 3 1 0] ∧ s.t 6 = .v false [.bp 6 ((s1.h 6).1 + 1) 0] ∧ s.t 11 = .v false [.dat (.sl (List.map M.Cache.en p0.Caches))] ∧ s.t 12 = .v false [.dat (.int .i64 (List.length p0.Caches : Int))] ∧ s.t 13 = .v false [.dat (.int .i64 v13)] ∧ s.t 21 = .v false [.dat (.sl (List.map M.Cached.en x11.Entries))] ∧ s.t 22 = .v false [.dat (.int .i64 (List.length x11.Entries : Int))] ∧ s.t 23 = .v false [.dat (.int .i64 v23_L2)] ∧ s.h 2 = (1, .box 51 [.nil]) ∧ s.h 3 = (1, .box 51 [.row 7030000 u30000]) ∧ s.h 6 = (((s1.h 6).1 + 1), .box 185 [.dat (.int .i64 x11.Version), .row 7060000 (u60000_L2 + 1)]) ∧ s.h 7030000 = (u30000, .row 185 2 (List.map M.Cache.en r30000) true) ∧ s.h 7060000 = ((u60000_L2 + 1), .row 189 7 (List.map M.Cached.en (r60000_L2 ++ [(⟨x34.Site, x34.Path, x39⟩ : M.Cached)])) true) ∧ True) ?_
  rintro s43 ⟨f44, f45, f46, f47, f48, f49, f50, f51, f52, f53, f54, f55, f56, f57, _⟩
  refine rn ?_
  refine aft_i ⟨_, (Gho.ren_b (b := 6) (c := 1) (K := 7060000) (j := 7060000) (by simp +decide only [F, reduceIte, Nat.reduceAdd, Bool.not_true, Bool.not_false, EN, *, -h]; rfl) rfl (by simp +decide only [F, reduceIte, Nat.reduceAdd, Bool.not_true, Bool.not_false, EN, *, -h]; rfl) (by decide)), mL2, by omega, (IntKind.i64.wrap (v23_L2 + 1)), (r60000_L2 ++ [(⟨x34.Site, x34.Path, x39⟩ : M.Cached)]), ((u60000_L2 + 1) + 1), ?_, ?_, ?_, ?_, ?_, ?_, ?_, ?_, ?_, ?_, ?_, ?_, ?_, ?_, h⟩
  all_goals simp +decide only [F, reduceIte, Nat.reduceAdd, Bool.not_true, Bool.not_false, EN, *, -h]

set_option maxHeartbeats 4000000 in
theorem c_impl_copyRecord (p0 : M.Record) (r : M.Record) (h : m_impl_copyRecord p0 = some r) : SCalls Tryz.prog 328 [(true, M.Record.en p0)] [(true, [.own 273 2 (List.map M.Field.en r.Fields)])] := by
  unfold m_impl_copyRecord at h
  simp only [M.Record.en]
  refine scalls_n (N := 8) (vars := [.cell 2 206]) Tryz.func328 rfl rfl rfl (by decide +kernel) (Nat.le_of_ble_eq_true rfl) fun base wd => ?_
  refine sq (rn ?_)
  refine an (sq ?_)
  obtain ⟨x1, h2, h⟩ := bind_some h
  refine rn1 h2 ?_
  refine an (rt ?_)
  cases h
  simp [Ret, TB, EN, *]

set_option maxHeartbeats 4000000 in
theorem c_impl_copyItem (p0 : M.Item) (r : M.Item) (h : m_impl_copyItem p0 = some r) : SCalls Tryz.prog 305 [(true, M.Item.en p0)] [(true, [.ro (.int .i64 r.Key.Kind), .ro (.int .i64 r.Key.N), .ro (.str r.Key.Text), .own 273 2 (List.map M.Field.en r.Record.Fields)])] := by
  unfold m_impl_copyItem at h
  simp only [M.Item.en]
  refine scalls_n (N := 9) (vars := [.cell 2 208]) Tryz.func305 rfl rfl rfl (by decide +kernel) (Nat.le_of_ble_eq_true rfl) fun base wd => ?_
  refine sq (rn ?_)
  refine an (sq ?_)
  obtain ⟨x1, h2, h⟩ := bind_some h
  refine rd1 mixed (c_impl_copyRecord _ _ h2) ?_
  refine an (rt ?_)
  cases h
  simp [Ret, TB, EN, *]

set_option maxHeartbeats 4000000 in
theorem c_impl_copyStore (p0 : M.Store) (r : M.Store) (h : m_impl_copyStore p0 = some r) : SCalls Tryz.prog 273 [(true, M.Store.en p0)] [(true, [.ro (.str r.Name), .own 208 4 (List.map M.Item.en r.Items), .ro (.int .i64 r.Auto)])] := by
  unfold m_impl_copyStore at h
  simp only [M.Store.en]
  refine scalls_n (N := 27) (vars := [.cell 2 60]) Tryz.func273 rfl rfl rfl (by decide +kernel) (Nat.le_of_ble_eq_true rfl) fun base wd => ?_
  refine sq (rn ?_)
  refine an (sq (rn ?_))
  refine an (sq (sq (rn ?_)))
  refine an (bk ?_)
  refine SW_gho ((Gho.own_b (b := 3) (c := 1) (K := 7030000) 208 4 (by simp +decide only [F, reduceIte, Nat.reduceAdd, Bool.not_true, Bool.not_false, EN, *, -h]; rfl) rfl (by decide))) ?_
  refine SW_loopG (fun m s => ∃ v14 : Int, ∃ r30000 : List M.Item, ∃ u30000 : Nat, s.t 2 = .v false [.bp 2 1 0] ∧ s.t 3 = .v false [.bp 3 1 0] ∧ s.t 12 = .v false [.dat (.sl (List.map M.Item.en p0.Items))] ∧ s.t 13 = .v false [.dat (.int .i64 (List.length p0.Items : Int))] ∧ s.t 14 = .v false [.dat (.int .i64 v14)] ∧ s.h 2 = (1, .box 60 [.dat (.str (⟨#[]⟩ : ByteArray)), .nil, .dat (.int .i64 0)]) ∧ s.h 3 = (1, .box 60 [.dat (.str p0.Name), .row 7030000 u30000, .dat (.int .i64 p0.Auto)]) ∧ s.h 7030000 = (u30000, .row 208 4 (List.map M.Item.en r30000) true) ∧ m_impl_copyStore_L1 p0 m v14 r30000 = some r) fuel ?_ ?_
  · refine ⟨0, ([] : List M.Item), 1, ?_, ?_, ?_, ?_, ?_, ?_, ?_, ?_, h⟩
    all_goals simp +decide only [F, reduceIte, Nat.reduceAdd, Bool.not_true, Bool.not_false, EN, *, -h]
  rintro mL1 s1 ⟨v14, r30000, u30000, f2, f3, f4, f5, f6, f7, f8, f9, h⟩
  rcases mL1 with _ | mL1
  · exact absurd h (by simp [m_impl_copyStore_L1])
  simp only [m_impl_copyStore_L1] at h
  refine sq (rn ?_)
  refine an (sq ?_)
  rcases bcas (decide (v14 < (List.length p0.Items : Int))) with b10 | b10
  · replace h := ite_f b10 h
    refine cf (xt (aft_cx (aft_ix (aft_x (an (sq (rn ?_)))))))
    refine an (rt ?_)
    cases h
    simp [Ret, TB, EN, *]
  replace h := ite_t b10 h
  refine ct (sk (an (sq (bk (sq ?_)))))
  obtain ⟨x11, h12, h⟩ := bind_some h
  obtain ⟨q13, q14, q15⟩ := idx_some h12
  refine rn ?_
  refine an ?_
  obtain ⟨x16, h17, h⟩ := bind_some h
  obtain ⟨x18, h19, h⟩ := bind_some h
  refine rd2 mixed (c_impl_copyItem _ _ h17) h19 ?_
  refine ab (an ?_)
  refine cu (fun s => s.t 2 = .v false [.bp 2 1 0] ∧ s.t 3 = .v false [.bp 3 1 0] ∧ s.t 12 = .v false [.dat (.sl (List.map M.Item.en p0.Items))] ∧ s.t 13 = .v false [.dat (.int .i64 (List.length p0.Items : Int))] ∧ s.t 14 = .v false [.dat (.int .i64 v14)] ∧ s.h 2 = (1, .box 60 [.dat (.str (⟨#[]⟩ : ByteArray)), .nil, .dat (.int .i64 0)]) ∧ s.h 3 = (1, .box 60 [.dat (.str p0.Name), .row 7030000 (u30000 + 1), .dat (.int .i64 p0.Auto)]) ∧ s.h 7030000 = ((u30000 + 1), .row 208 4 (List.map M.Item.en (r30000 ++ [x16])) true) ∧ True) ?_
  rintro s20 ⟨f21, f22, f23, f24, f25, f26, f27, f28, _⟩
  refine rn ?_
  refine aft_i ⟨_, (Gho.ren_b (b := 3) (c := 1) (K := 7030000) (j := 7030000) (by simp +decide only [F, reduceIte, Nat.reduceAdd, Bool.not_true, Bool.not_false, EN, *, -h]; rfl) rfl (by simp +decide only [F, reduceIte, Nat.reduceAdd, Bool.not_true, Bool.not_false, EN, *, -h]; rfl) (by decide)), mL1, by omega, (IntKind.i64.wrap (v14 + 1)), (r30000 ++ [x16]), ((u30000 + 1) + 1), ?_, ?_, ?_, ?_, ?_, ?_, ?_, ?_, h⟩
  all_goals simp +decide only [F, reduceIte, Nat.reduceAdd, Bool.not_true, Bool.not_false, EN, *, -h]

set_option maxHeartbeats 4000000 in
theorem c_impl_copyDatabase (p0 : M.Database) (r : M.Database) (h : m_impl_copyDatabase p0 = some r) : SCalls Tryz.prog 271 [(true, M.Database.en p0)] [(true, [.ro (.str r.Name), .ro (.int .i64 r.Version), .own 60 3 (List.map M.Store.en r.Stores), .own 225 2 (List.map M.IndexDef.en r.Unique)])] := by
  unfold m_impl_copyDatabase at h
  simp only [M.Database.en]
  refine scalls_n (N := 31) (vars := [.cell 2 55]) Tryz.func271 rfl rfl rfl (by decide +kernel) (Nat.le_of_ble_eq_true rfl) fun base wd => ?_
  refine sq (rn ?_)
  refine an (sq ?_)
  obtain ⟨x1, h2, h⟩ := bind_some h
  refine rd1 mixed h2 ?_
  refine an (sq (sq ?_))
  refine cu (fun s => s.t 1 = .v false [.bp 1 1 0] ∧ s.t 2 = .v false [.bp 2 1 0] ∧ s.t 3 = .v false [.bp 3 1 0] ∧ s.h 1 = (1, .box 55 [.dat (.str p0.Name), .dat (.int .i64 p0.Version), .dat (.sl (List.map M.Store.en p0.Stores)), .dat (.sl (List.map M.IndexDef.en p0.Unique))]) ∧ s.h 2 = (1, .box 55 [.dat (.str (⟨#[]⟩ : ByteArray)), .dat (.int .i64 0), .nil, .nil]) ∧ s.h 3 = (1, .box 55 [.dat (.str p0.Name), .dat (.int .i64 p0.Version), .nil, .row 100010 2]) ∧ s.h 100010 = (2, .row 225 2 (List.map M.IndexDef.en p0.Unique) true) ∧ True) ?_
  rintro s3 ⟨f4, f5, f6, f7, f8, f9, f10, _⟩
  refine rn ?_
  refine an (bk ?_)
  refine SW_gho ((Gho.own_b (b := 3) (c := 2) (K := 7030000) 60 3 (by simp +decide only [F, reduceIte, Nat.reduceAdd, Bool.not_true, Bool.not_false, EN, *, -h]; rfl) rfl (by decide))) ?_
  refine SW_loopG (fun m s => ∃ v18 : Int, ∃ r30000 : List M.Store, ∃ u30000 : Nat, s.t 2 = .v false [.bp 2 1 0] ∧ s.t 3 = .v false [.bp 3 1 0] ∧ s.t 16 = .v false [.dat (.sl (List.map M.Store.en p0.Stores))] ∧ s.t 17 = .v false [.dat (.int .i64 (List.length p0.Stores : Int))] ∧ s.t 18 = .v false [.dat (.int .i64 v18)] ∧ s.h 2 = (1, .box 55 [.dat (.str (⟨#[]⟩ : ByteArray)), .dat (.int .i64 0), .nil, .nil]) ∧ s.h 3 = (1, .box 55 [.dat (.str p0.Name), .dat (.int .i64 p0.Version), .row 7030000 u30000, .row 100010 2]) ∧ s.h 100010 = (2, .row 225 2 (List.map M.IndexDef.en p0.Unique) true) ∧ s.h 7030000 = (u30000, .row 60 3 (List.map M.Store.en r30000) true) ∧ m_impl_copyDatabase_L1 p0 m v18 r30000 = some r) fuel ?_ ?_
  · refine ⟨0, ([] : List M.Store), ((s3.h 7030000).1 + 1), ?_, ?_, ?_, ?_, ?_, ?_, ?_, ?_, ?_, h⟩
    all_goals simp +decide only [F, reduceIte, Nat.reduceAdd, Bool.not_true, Bool.not_false, EN, *, -h]
  rintro mL1 s11 ⟨v18, r30000, u30000, f12, f13, f14, f15, f16, f17, f18, f19, f20, h⟩
  rcases mL1 with _ | mL1
  · exact absurd h (by simp [m_impl_copyDatabase_L1])
  simp only [m_impl_copyDatabase_L1] at h
  refine sq (rn ?_)
  refine an (sq ?_)
  rcases bcas (decide (v18 < (List.length p0.Stores : Int))) with b21 | b21
  · replace h := ite_f b21 h
    refine cf (xt (aft_cx (aft_ix (aft_x (an (sq (rn ?_)))))))
    refine an (rt ?_)
    cases h
    simp [Ret, TB, EN, *]
  replace h := ite_t b21 h
  refine ct (sk (an (sq (bk (sq ?_)))))
  obtain ⟨x22, h23, h⟩ := bind_some h
  obtain ⟨q24, q25, q26⟩ := idx_some h23
  refine rn ?_
  refine an ?_
  obtain ⟨x27, h28, h⟩ := bind_some h
  obtain ⟨x29, h30, h⟩ := bind_some h
  refine rd2 mixed (c_impl_copyStore _ _ h28) h30 ?_
  refine ab (an ?_)
  refine cu (fun s => s.t 2 = .v false [.bp 2 1 0] ∧ s.t 3 = .v false [.bp 3 1 0] ∧ s.t 16 = .v false [.dat (.sl (List.map M.Store.en p0.Stores))] ∧ s.t 17 = .v false [.dat (.int .i64 (List.length p0.Stores : Int))] ∧ s.t 18 = .v false [.dat (.int .i64 v18)] ∧ s.h 2 = (1, .box 55 [.dat (.str (⟨#[]⟩ : ByteArray)), .dat (.int .i64 0), .nil, .nil]) ∧ s.h 3 = (1, .box 55 [.dat (.str p0.Name), .dat (.int .i64 p0.Version), .row 7030000 (u30000 + 1), .row 100010 2]) ∧ s.h 100010 = (2, .row 225 2 (List.map M.IndexDef.en p0.Unique) true) ∧ s.h 7030000 = ((u30000 + 1), .row 60 3 (List.map M.Store.en (r30000 ++ [x27])) true) ∧ True) ?_
  rintro s31 ⟨f32, f33, f34, f35, f36, f37, f38, f39, f40, _⟩
  refine rn ?_
  refine aft_i ⟨_, (Gho.ren_b (b := 3) (c := 2) (K := 7030000) (j := 7030000) (by simp +decide only [F, reduceIte, Nat.reduceAdd, Bool.not_true, Bool.not_false, EN, *, -h]; rfl) rfl (by simp +decide only [F, reduceIte, Nat.reduceAdd, Bool.not_true, Bool.not_false, EN, *, -h]; rfl) (by decide)), mL1, by omega, (IntKind.i64.wrap (v18 + 1)), (r30000 ++ [x27]), ((u30000 + 1) + 1), ?_, ?_, ?_, ?_, ?_, ?_, ?_, ?_, ?_, h⟩
  all_goals simp +decide only [F, reduceIte, Nat.reduceAdd, Bool.not_true, Bool.not_false, EN, *, -h]

set_option maxHeartbeats 4000000 in
theorem c_impl_copyDisk (p0 : M.Disk) (r : M.Disk) (h : m_impl_copyDisk p0 = some r) : SCalls Tryz.prog 192 [(true, M.Disk.en p0)] [(true, [.ro (.str r.Base.Name), .ro (.int .i64 r.Base.Version), .own 60 3 (List.map M.Store.en r.Base.Stores), .own 225 2 (List.map M.IndexDef.en r.Base.Unique), .own 5 1 (List.map enB r.Log), .ro (.int .i64 r.Count)])] := by
  unfold m_impl_copyDisk at h
  simp only [M.Disk.en]
  refine scalls_n (N := 12) (vars := [.cell 2 57]) Tryz.func192 rfl rfl rfl (by decide +kernel) (Nat.le_of_ble_eq_true rfl) fun base wd => ?_
  refine sq (rn ?_)
  refine an (sq ?_)
  obtain ⟨x1, h2, h⟩ := bind_some h
  obtain ⟨x3, h4, h⟩ := bind_some h
  refine rd2 mixed (c_impl_copyDatabase _ _ h2) (c_impl_copyBytes _ _ h4) ?_
  refine an (rt ?_)
  cases h
  simp [Ret, TB, EN, *]

set_option maxHeartbeats 4000000 in
theorem c_impl_copyOutbox (p0 : M.Outbox) (r : M.Outbox) (h : m_impl_copyOutbox p0 = some r) : SCalls Tryz.prog 309 [(true, M.Outbox.en p0)] [(true, [.ro (.int .i64 r.Device), .ro (.int .i64 r.Next), .own 285 7 (List.map M.Write.en r.Writes)])] := by
  unfold m_impl_copyOutbox at h
  simp only [M.Outbox.en]
  refine scalls_n (N := 9) (vars := [.cell 2 63]) Tryz.func309 rfl rfl rfl (by decide +kernel) (Nat.le_of_ble_eq_true rfl) fun base wd => ?_
  refine sq (rn ?_)
  refine an (sq ?_)
  obtain ⟨x1, h2, h⟩ := bind_some h
  refine rn1 h2 ?_
  refine an (sq (rn ?_))
  refine an (rt ?_)
  cases h
  simp [Ret, TB, EN, *]

set_option maxHeartbeats 4000000 in
theorem c_impl_copySync (p0 : M.Sync) (r : M.Sync) (h : m_impl_copySync p0 = some r) : SCalls Tryz.prog 274 [(true, M.Sync.en p0)] [(true, [.ro (.int .i64 r.Outbox.Device), .ro (.int .i64 r.Outbox.Next), .own 285 7 (List.map M.Write.en r.Outbox.Writes), .ro (.int .i64 r.Tries), .ro (.int .i64 r.WaitUntil)])] := by
  unfold m_impl_copySync at h
  simp only [M.Sync.en]
  refine scalls_n (N := 8) (vars := [.cell 2 65]) Tryz.func274 rfl rfl rfl (by decide +kernel) (Nat.le_of_ble_eq_true rfl) fun base wd => ?_
  refine sq (rn ?_)
  refine an (sq ?_)
  obtain ⟨x1, h2, h⟩ := bind_some h
  refine rn1 (c_impl_copyOutbox _ _ h2) ?_
  refine an (sq (rn ?_))
  refine an (rt ?_)
  cases h
  simp [Ret, TB, EN, *]

set_option maxHeartbeats 4000000 in
theorem c_impl_copyReplica (p0 : M.Replica) (r : M.Replica) (h : m_impl_copyReplica p0 = some r) : SCalls Tryz.prog 193 [(true, M.Replica.en p0)] [(true, [.ro (.str r.Base.Name), .own 208 4 (List.map M.Item.en r.Base.Items), .ro (.int .i64 r.Base.Auto), .ro (.int .i64 r.Seen), .ro (.int .i64 r.Sync.Outbox.Device), .ro (.int .i64 r.Sync.Outbox.Next), .own 285 7 (List.map M.Write.en r.Sync.Outbox.Writes), .ro (.int .i64 r.Sync.Tries), .ro (.int .i64 r.Sync.WaitUntil)])] := by
  unfold m_impl_copyReplica at h
  simp only [M.Replica.en]
  refine scalls_n (N := 12) (vars := [.cell 2 67]) Tryz.func193 rfl rfl rfl (by decide +kernel) (Nat.le_of_ble_eq_true rfl) fun base wd => ?_
  refine sq (rn ?_)
  refine an (sq ?_)
  obtain ⟨x1, h2, h⟩ := bind_some h
  obtain ⟨x3, h4, h⟩ := bind_some h
  refine rd2 mixed (c_impl_copyStore _ _ h2) (c_impl_copySync _ _ h4) ?_
  refine an (rt ?_)
  cases h
  simp [Ret, TB, EN, *]

set_option maxHeartbeats 4000000 in
theorem c_impl_copyBucket (p0 : M.Bucket) (r : M.Bucket) (h : m_impl_copyBucket p0 = some r) : SCalls Tryz.prog 110 [(true, M.Bucket.en p0)] [(true, [.ro (.str r.Site), .ro (.str r.Top), .ro (.str r.Registration.Site), .ro (.int .i64 r.Registration.Installing), .ro (.int .i64 r.Registration.Waiting), .ro (.int .i64 r.Registration.Active), .own 185 2 (List.map M.Cache.en r.Caches.Caches), .ro (.str r.Disk.Base.Name), .ro (.int .i64 r.Disk.Base.Version), .own 60 3 (List.map M.Store.en r.Disk.Base.Stores), .own 225 2 (List.map M.IndexDef.en r.Disk.Base.Unique), .own 5 1 (List.map enB r.Disk.Log), .ro (.int .i64 r.Disk.Count), .ro (.str r.Replica.Base.Name), .own 208 4 (List.map M.Item.en r.Replica.Base.Items), .ro (.int .i64 r.Replica.Base.Auto), .ro (.int .i64 r.Replica.Seen), .ro (.int .i64 r.Replica.Sync.Outbox.Device), .ro (.int .i64 r.Replica.Sync.Outbox.Next), .own 285 7 (List.map M.Write.en r.Replica.Sync.Outbox.Writes), .ro (.int .i64 r.Replica.Sync.Tries), .ro (.int .i64 r.Replica.Sync.WaitUntil), .ro (.int .i64 r.LastUsed), .ro (.bool r.Persistent)])] := by
  unfold m_impl_copyBucket at h
  simp only [M.Bucket.en]
  refine scalls_n (N := 16) (vars := [.cell 2 69]) Tryz.func110 rfl rfl rfl (by decide +kernel) (Nat.le_of_ble_eq_true rfl) fun base wd => ?_
  refine sq (rn ?_)
  refine an (sq ?_)
  obtain ⟨x1, h2, h⟩ := bind_some h
  refine rn1 (c_impl_copyCacheSet _ _ h2) ?_
  refine an (sq ?_)
  obtain ⟨x3, h4, h⟩ := bind_some h
  refine rn1 (c_impl_copyDisk _ _ h4) ?_
  refine an (sq ?_)
  obtain ⟨x5, h6, h⟩ := bind_some h
  refine rn1 (c_impl_copyReplica _ _ h6) ?_
  refine an (sq (rn ?_))
  refine an (rt ?_)
  cases h
  simp [Ret, TB, EN, *]

set_option maxHeartbeats 4000000 in
theorem c_impl_EvictOld (p0 : M.Storage) (p1 : List M.Page) (p2 : Int) (r : (M.Storage × (List ByteArray))) (h : m_impl_EvictOld p0 p1 p2 = some r) : SCalls Tryz.prog 42 [(true, M.Storage.en p0), (false, [.sl (List.map M.Page.en p1)]), (false, [.int .i64 p2])] [(true, [.own 69 24 (List.map M.Bucket.en r.1.Buckets)]), (false, [.own 9 1 (List.map enS r.2)])] := by
  unfold m_impl_EvictOld at h
  simp only [M.Storage.en]
  refine scalls_n (N := 44) (vars := [.cell 6 81, .tmp 7]) Tryz.func42 rfl rfl rfl (by decide +kernel) (Nat.le_of_ble_eq_true rfl) fun base wd => ?_
  refine sq (rn ?_)
  refine an (sq (rn ?_))
  refine an (sq (rn ?_))
  refine an (sq (sq ?_))
  refine cu (fun s => s.t 1 = .v false [.dat (.sl (List.map M.Page.en p1))] ∧ s.t 2 = .v false [.dat (.int .i64 p2)] ∧ s.t 3 = .v false [.bp 3 1 0] ∧ s.t 6 = .v false [.bp 6 1 0] ∧ s.t 8 = .v false [.bp 8 1 0] ∧ s.t 9 = .v false [.row 100013 1] ∧ s.h 3 = (1, .box 81 [.dat (.sl (List.map M.Bucket.en p0.Buckets))]) ∧ s.h 6 = (1, .box 81 [.nil]) ∧ s.h 8 = (1, .box 81 [.nil]) ∧ s.h 100013 = (1, .row 9 1 (List.map enS ([] : List ByteArray)) true) ∧ True) ?_
  rintro s1 ⟨f2, f3, f4, f5, f6, f7, f8, f9, f10, f11, _⟩
  refine rn ?_
  refine an (bk ?_)
  refine SW_gho ((Gho.own_b (b := 8) (c := 0) (K := 7080000) 69 24 (by simp +decide only [F, reduceIte, Nat.reduceAdd, Bool.not_true, Bool.not_false, EN, *, -h]; rfl) rfl (by decide))) ?_
  refine SW_loopG (fun m s => ∃ v17 : Int, ∃ r13 : List ByteArray, ∃ r80000 : List M.Bucket, ∃ u13 : Nat, ∃ u80000 : Nat, s.t 1 = .v false [.dat (.sl (List.map M.Page.en p1))] ∧ s.t 2 = .v false [.dat (.int .i64 p2)] ∧ s.t 6 = .v false [.bp 6 1 0] ∧ s.t 8 = .v false [.bp 8 1 0] ∧ s.t 9 = .v false [.row 100013 u13] ∧ s.t 15 = .v false [.dat (.sl (List.map M.Bucket.en p0.Buckets))] ∧ s.t 16 = .v false [.dat (.int .i64 (List.length p0.Buckets : Int))] ∧ s.t 17 = .v false [.dat (.int .i64 v17)] ∧ s.h 6 = (1, .box 81 [.nil]) ∧ s.h 8 = (1, .box 81 [.row 7080000 u80000]) ∧ s.h 100013 = (u13, .row 9 1 (List.map enS r13) true) ∧ s.h 7080000 = (u80000, .row 69 24 (List.map M.Bucket.en r80000) true) ∧ m_impl_EvictOld_L1 p0 p1 p2 m v17 r13 r80000 = some r) fuel ?_ ?_
  · refine ⟨0, ([] : List ByteArray), ([] : List M.Bucket), 1, ((s1.h 7080000).1 + 1), ?_, ?_, ?_, ?_, ?_, ?_, ?_, ?_, ?_, ?_, ?_, ?_, h⟩
    all_goals simp +decide only [F, reduceIte, Nat.reduceAdd, Bool.not_true, Bool.not_false, EN, *, -h]
  rintro mL1 s12 ⟨v17, r13, r80000, u13, u80000, f13, f14, f15, f16, f17, f18, f19, f20, f21, f22, f23, f24, h⟩
  rcases mL1 with _ | mL1
  · exact absurd h (by simp [m_impl_EvictOld_L1])
  simp only [m_impl_EvictOld_L1] at h
  refine sq (rn ?_)
  refine an (sq ?_)
  rcases bcas (decide (v17 < (List.length p0.Buckets : Int))) with b25 | b25
  · replace h := ite_f b25 h
    refine cf (xt (aft_cx (aft_ix (aft_x (an (sq (rn ?_)))))))
    refine an (rt ?_)
    cases h
    simp [Ret, TB, EN, *]
  replace h := ite_t b25 h
  refine ct (sk (an (sq (bk (sq ?_)))))
  obtain ⟨x26, h27, h⟩ := bind_some h
  obtain ⟨q28, q29, q30⟩ := idx_some h27
  refine rn ?_
  refine an (sq ?_)
  obtain ⟨x31, h32, h⟩ := bind_some h
  refine rn1 (c_impl_IsEvictable _ _ _ _ h32) ?_
  refine an ?_
  rcases bcas x31 with b33 | b33
  · replace h := ite_f b33 h
    refine cf ?_
    obtain ⟨x53, h54, h⟩ := bind_some h
    obtain ⟨x55, h56, h⟩ := bind_some h
    refine rd2 mixed (c_impl_copyBucket _ _ h54) h56 ?_
    refine ab (an ?_)
    refine cu (fun s => s.t 1 = .v false [.dat (.sl (List.map M.Page.en p1))] ∧ s.t 2 = .v false [.dat (.int .i64 p2)] ∧ s.t 6 = .v false [.bp 6 1 0] ∧ s.t 8 = .v false [.bp 8 1 0] ∧ s.t 9 = .v false [.row 100013 u13] ∧ s.t 15 = .v false [.dat (.sl (List.map M.Bucket.en p0.Buckets))] ∧ s.t 16 = .v false [.dat (.int .i64 (List.length p0.Buckets : Int))] ∧ s.t 17 = .v false [.dat (.int .i64 v17)] ∧ s.h 6 = (1, .box 81 [.nil]) ∧ s.h 8 = (1, .box 81 [.row 7080000 (u80000 + 1)]) ∧ s.h 100013 = (u13, .row 9 1 (List.map enS r13) true) ∧ s.h 7080000 = ((u80000 + 1), .row 69 24 (List.map M.Bucket.en (r80000 ++ [x53])) true) ∧ True) ?_
    rintro s57 ⟨f58, f59, f60, f61, f62, f63, f64, f65, f66, f67, f68, f69, _⟩
    refine rn ?_
    refine aft_i ⟨_, (Gho.ren_b (b := 8) (c := 0) (K := 7080000) (j := 7080000) (by simp +decide only [F, reduceIte, Nat.reduceAdd, Bool.not_true, Bool.not_false, EN, *, -h]; rfl) rfl (by simp +decide only [F, reduceIte, Nat.reduceAdd, Bool.not_true, Bool.not_false, EN, *, -h]; rfl) (by decide)), mL1, by omega, (IntKind.i64.wrap (v17 + 1)), r13, (r80000 ++ [x53]), u13, ((u80000 + 1) + 1), ?_, ?_, ?_, ?_, ?_, ?_, ?_, ?_, ?_, ?_, ?_, ?_, h⟩
    all_goals simp +decide only [F, reduceIte, Nat.reduceAdd, Bool.not_true, Bool.not_false, EN, *, -h]
  replace h := ite_t b33 h
  refine ct ?_
  obtain ⟨x34, h35, h⟩ := bind_some h
  have h35_ := cat_some h35
  obtain ⟨x36, h37, h⟩ := bind_some h
  have h37_ := cat_some h37
  obtain ⟨x38, h39, h⟩ := bind_some h
  refine rn3 h35_ h37_ h39 ?_
  refine ab (an ?_)
  refine cu (fun s => s.t 1 = .v false [.dat (.sl (List.map M.Page.en p1))] ∧ s.t 2 = .v false [.dat (.int .i64 p2)] ∧ s.t 6 = .v false [.bp 6 1 0] ∧ s.t 8 = .v false [.bp 8 1 0] ∧ s.t 9 = .v false [.row 100013 (u13 + 1)] ∧ s.t 15 = .v false [.dat (.sl (List.map M.Bucket.en p0.Buckets))] ∧ s.t 16 = .v false [.dat (.int .i64 (List.length p0.Buckets : Int))] ∧ s.t 17 = .v false [.dat (.int .i64 v17)] ∧ s.h 6 = (1, .box 81 [.nil]) ∧ s.h 8 = (1, .box 81 [.row 7080000 u80000]) ∧ s.h 100013 = ((u13 + 1), .row 9 1 (List.map enS (r13 ++ [((x26.Site ++ (⟨#[47]⟩ : ByteArray)) ++ x26.Top)])) true) ∧ s.h 7080000 = (u80000, .row 69 24 (List.map M.Bucket.en r80000) true) ∧ True) ?_
  rintro s40 ⟨f41, f42, f43, f44, f45, f46, f47, f48, f49, f50, f51, f52, _⟩
  refine rn ?_
  refine aft_i ⟨_, (Gho.ren_b (b := 8) (c := 0) (K := 7080000) (j := 7080000) (by simp +decide only [F, reduceIte, Nat.reduceAdd, Bool.not_true, Bool.not_false, EN, *, -h]; rfl) rfl (by simp +decide only [F, reduceIte, Nat.reduceAdd, Bool.not_true, Bool.not_false, EN, *, -h]; rfl) (by decide)), mL1, by omega, (IntKind.i64.wrap (v17 + 1)), (r13 ++ [((x26.Site ++ (⟨#[47]⟩ : ByteArray)) ++ x26.Top)]), r80000, (u13 + 1), (u80000 + 1), ?_, ?_, ?_, ?_, ?_, ?_, ?_, ?_, ?_, ?_, ?_, ?_, h⟩
  all_goals simp +decide only [F, reduceIte, Nat.reduceAdd, Bool.not_true, Bool.not_false, EN, *, -h]

end Go.Proofs.YtgpiencmneiblaaGreat.gen
