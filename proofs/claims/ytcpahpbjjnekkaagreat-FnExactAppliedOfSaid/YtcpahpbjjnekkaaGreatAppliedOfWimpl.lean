/-
  Helper text: walks: each function's contract out of its model. No conditions beyond those of each contract.
-/
import Derived.Test.YtcpahpbjjnekkaaGreatAppliedOfTi
namespace Go.Proofs.YtcpahpbjjnekkaaGreat.gen
open Go Go.Sh
set_option linter.unusedVariables false
set_option linter.unusedSimpArgs false
set_option maxRecDepth 20000 in
set_option maxHeartbeats 4000000 in
theorem c_impl_FindBucket_1 (p0 : M.Bucket) (c0 : ByteArray) (c1 : ByteArray) (r : Bool) (h : m_impl_FindBucket_1 p0 c0 c1 = some r) : SCalls Tryz.prog 198 [(true, M.Bucket.en p0), (false, [.ptr [.str c0]]), (false, [.ptr [.str c1]])] [(false, [.ro (.bool r)])] := by
  unfold m_impl_FindBucket_1 at h
  simp only [M.Bucket.en]
  refine scalls_n (N := 15) (vars := [.tmp 4]) Tryz.func198 rfl rfl rfl (by decide +kernel) (Nat.le_of_ble_eq_true rfl) fun base wd => ?_
  refine sq (rn ?_)
  refine an (sq ?_)
  rcases bcase (p0.Site.toList == c0.toList) with b1 | b1
  · replace h := ite_t b1 h
    refine rn ?_
    refine an (rt ?_)
    cases h
    simp [Ret, TB, EN, *]
  replace h := ite_f b1 h
  refine rn ?_
  refine an (rt ?_)
  cases h
  simp [Ret, TB, EN, *]

set_option maxRecDepth 20000 in
set_option maxHeartbeats 4000000 in
theorem c_slices_IndexFunc_Bucket (p0 : List M.Bucket) (p1 : M.Bucket → Option Bool) (f1_ : FuncId) (k1_ : List D) (hp1 : ∀ z0 r, p1 z0 = some r → SCalls Tryz.prog f1_ ((true, M.Bucket.en z0) ::  k1_.map fun c => (false, [c])) [(false, [.ro (.bool r)])]) (r : Int) (h : m_slices_IndexFunc_Bucket p0 p1 = some r) : SCalls Tryz.prog 197 [(false, [.sl (List.map M.Bucket.en p0)]), (false, [.fn f1_ k1_])] [(false, [.ro (.int .i64 r)])] := by
  unfold m_slices_IndexFunc_Bucket at h
  refine scalls_n (N := 19) (vars := [.tmp 4]) Tryz.func197 rfl rfl rfl (by decide +kernel) (Nat.le_of_ble_eq_true rfl) fun base wd => ?_
  refine sq (rn ?_)
  refine an (sq (sq (rn ?_)))
  refine an (bk ?_)
  refine SW_loop (fun m s => ∃ v8 : Int, s.t 0 = .v false [.dat (.sl (List.map M.Bucket.en p0))] ∧ s.t 1 = .v false [.dat (.fn f1_ k1_)] ∧ s.t 7 = .v false [.dat (.int .i64 (List.length p0 : Int))] ∧ s.t 8 = .v false [.dat (.int .i64 v8)] ∧ m_slices_IndexFunc_Bucket_L1 p0 p1 m v8 = some r) fuel ?_ ?_
  · refine ⟨0, ?_, ?_, ?_, ?_, h⟩
    all_goals simp +decide only [F, reduceIte, Nat.reduceAdd, Bool.not_true, Bool.not_false, EN, *, -h]
  rintro mL1 s1 ⟨v8, f2, f3, f4, f5, h⟩
  rcases mL1 with _ | mL1
  · exact absurd h (by simp [m_slices_IndexFunc_Bucket_L1])
  simp only [m_slices_IndexFunc_Bucket_L1] at h
  refine sq (rn ?_)
  refine an (sq ?_)
  rcases bcas (decide (v8 < (List.length p0 : Int))) with b6 | b6
  · replace h := ite_f b6 h
    refine cf (xt (aft_cx (aft_ix (aft_x (an (sq (rn ?_)))))))
    refine an (rt ?_)
    cases h
    simp [Ret, TB, EN, *]
  replace h := ite_t b6 h
  refine ct (sk (an (sq (bk (sq (rn ?_))))))
  refine an (sq ?_)
  obtain ⟨x7, h8, h⟩ := bind_some h
  obtain ⟨q9, q10, q11⟩ := idx_some h8
  obtain ⟨x12, h13, h⟩ := bind_some h
  refine rn1 (hp1 x7 x12 h13) ?_
  refine an ?_
  rcases bcase x12 with b14 | b14
  · replace h := ite_t b14 h
    refine ct (sq (rn ?_))
    refine an (rt ?_)
    cases h
    simp [Ret, TB, EN, *]
  replace h := ite_f b14 h
  refine cf (sk (ab (an (rn ?_))))
  refine aft_i ⟨mL1, by omega, (IntKind.i64.wrap (v8 + 1)), ?_, ?_, ?_, ?_, h⟩
  all_goals simp +decide only [F, reduceIte, Nat.reduceAdd, Bool.not_true, Bool.not_false, EN, *, -h]

set_option maxRecDepth 20000 in
set_option maxHeartbeats 4000000 in
theorem c_impl_FindBucket (p0 : M.Storage) (p1 : ByteArray) (p2 : ByteArray) (r : Int) (h : m_impl_FindBucket p0 p1 p2 = some r) : SCalls Tryz.prog 123 [(true, M.Storage.en p0), (false, [.str p1]), (false, [.str p2])] [(false, [.ro (.int .i64 r)])] := by
  unfold m_impl_FindBucket at h
  simp only [M.Storage.en]
  refine scalls_n (N := 11) (vars := [.tmp 6]) Tryz.func123 rfl rfl rfl (by decide +kernel) (Nat.le_of_ble_eq_true rfl) fun base wd => ?_
  refine sq (rn ?_)
  refine an (sq ?_)
  obtain ⟨x1, h2, h⟩ := bind_some h
  refine rn1 (c_slices_IndexFunc_Bucket p0.Buckets (fun z0 => m_impl_FindBucket_1 z0 p1 p2) 198 [.ptr [.str p1], .ptr [.str p2]] (fun z0 r hr => c_impl_FindBucket_1 z0 p1 p2 r hr) x1 h2) ?_
  refine an (rt ?_)
  cases h
  simp [Ret, TB, EN, *]

set_option maxRecDepth 20000 in
set_option maxHeartbeats 4000000 in
theorem c_impl_bucketOf (p0 : M.World) (p1 : ByteArray) (p2 : ByteArray) (r : (M.Bucket × Bool)) (h : m_impl_bucketOf p0 p1 p2 = some r) : SCalls Tryz.prog 83 [(true, M.World.en p0), (false, [.str p1]), (false, [.str p2])] [(true, [.ro (.str r.1.Site), .ro (.str r.1.Top), .ro (.str r.1.Registration.Site), .ro (.int .i64 r.1.Registration.Installing), .ro (.int .i64 r.1.Registration.Waiting), .ro (.int .i64 r.1.Registration.Active), .any (.sl (List.map M.Cache.en r.1.Caches.Caches)), .ro (.str r.1.Disk.Base.Name), .ro (.int .i64 r.1.Disk.Base.Version), .any (.sl (List.map M.Store.en r.1.Disk.Base.Stores)), .any (.sl (List.map M.IndexDef.en r.1.Disk.Base.Unique)), .any (.sl (List.map enB r.1.Disk.Log)), .ro (.int .i64 r.1.Disk.Count), .ro (.str r.1.Replica.Base.Name), .any (.sl (List.map M.Item.en r.1.Replica.Base.Items)), .ro (.int .i64 r.1.Replica.Base.Auto), .ro (.int .i64 r.1.Replica.Seen), .ro (.int .i64 r.1.Replica.Sync.Outbox.Device), .ro (.int .i64 r.1.Replica.Sync.Outbox.Next), .any (.sl (List.map M.Write.en r.1.Replica.Sync.Outbox.Writes)), .ro (.int .i64 r.1.Replica.Sync.Tries), .ro (.int .i64 r.1.Replica.Sync.WaitUntil), .ro (.int .i64 r.1.LastUsed), .ro (.bool r.1.Persistent)]), (false, [.ro (.bool r.2)])] := by
  unfold m_impl_bucketOf at h
  simp only [M.World.en]
  refine scalls_n (N := 23) (vars := [.cell 6 145, .tmp 7]) Tryz.func83 rfl rfl rfl (by decide +kernel) (Nat.le_of_ble_eq_true rfl) fun base wd => ?_
  refine sq (rn ?_)
  refine an (sq ?_)
  obtain ⟨x1, h2, h⟩ := bind_some h
  refine rn1 (c_impl_FindBucket _ _ _ _ h2) ?_
  refine an (sq (sq (rn ?_)))
  refine an ?_
  rcases bcase (decide (x1 < 0)) with b3 | b3
  · replace h := ite_t b3 h
    refine ct (sq (rn ?_))
    refine an (rt ?_)
    cases h
    simp [Ret, TB, EN, *]
  replace h := ite_f b3 h
  refine cf (sk (an (sq ?_)))
  obtain ⟨x4, h5, h⟩ := bind_some h
  obtain ⟨q6, q7, q8⟩ := idx_some h5
  refine rn ?_
  refine an (rt ?_)
  cases h
  simp [Ret, TB, EN, *]

set_option maxRecDepth 20000 in
set_option maxHeartbeats 4000000 in
theorem c_slices_Index_string (p0 : List ByteArray) (p1 : ByteArray) (r : Int) (h : m_slices_Index_string p0 p1 = some r) : SCalls Tryz.prog 179 [(false, [.sl (List.map enS p0)]), (false, [.str p1])] [(false, [.ro (.int .i64 r)])] := by
  unfold m_slices_Index_string at h
  refine scalls_n (N := 19) (vars := [.tmp 4]) Tryz.func179 rfl rfl rfl (by decide +kernel) (Nat.le_of_ble_eq_true rfl) fun base wd => ?_
  refine sq (rn ?_)
  refine an (sq (sq (rn ?_)))
  refine an (bk ?_)
  refine SW_loop (fun m s => ∃ v8 : Int, s.t 0 = .v false [.dat (.sl (List.map enS p0))] ∧ s.t 1 = .v false [.dat (.str p1)] ∧ s.t 7 = .v false [.dat (.int .i64 (List.length p0 : Int))] ∧ s.t 8 = .v false [.dat (.int .i64 v8)] ∧ m_slices_Index_string_L1 p0 p1 m v8 = some r) fuel ?_ ?_
  · refine ⟨0, ?_, ?_, ?_, ?_, h⟩
    all_goals simp +decide only [F, reduceIte, Nat.reduceAdd, Bool.not_true, Bool.not_false, EN, *, -h]
  rintro mL1 s1 ⟨v8, f2, f3, f4, f5, h⟩
  rcases mL1 with _ | mL1
  · exact absurd h (by simp [m_slices_Index_string_L1])
  simp only [m_slices_Index_string_L1] at h
  refine sq (rn ?_)
  refine an (sq ?_)
  rcases bcas (decide (v8 < (List.length p0 : Int))) with b6 | b6
  · replace h := ite_f b6 h
    refine cf (xt (aft_cx (aft_ix (aft_x (an (sq (rn ?_)))))))
    refine an (rt ?_)
    cases h
    simp [Ret, TB, EN, *]
  replace h := ite_t b6 h
  refine ct (sk (an (sq (bk (sq (rn ?_))))))
  refine an (sq ?_)
  obtain ⟨x7, h8, h⟩ := bind_some h
  obtain ⟨q9, q10, q11⟩ := idx_some h8
  refine rn ?_
  refine an ?_
  rcases bcase (p1.toList == x7.toList) with b12 | b12
  · replace h := ite_t b12 h
    refine ct (sq (rn ?_))
    refine an (rt ?_)
    cases h
    simp [Ret, TB, EN, *]
  replace h := ite_f b12 h
  refine cf (sk (ab (an (rn ?_))))
  refine aft_i ⟨mL1, by omega, (IntKind.i64.wrap (v8 + 1)), ?_, ?_, ?_, ?_, h⟩
  all_goals simp +decide only [F, reduceIte, Nat.reduceAdd, Bool.not_true, Bool.not_false, EN, *, -h]

set_option maxRecDepth 20000 in
set_option maxHeartbeats 4000000 in
theorem c_impl_SiteNumber (p0 : ByteArray) (r : Int) (h : m_impl_SiteNumber p0 = some r) : SCalls Tryz.prog 102 [(false, [.str p0])] [(false, [.ro (.int .i64 r)])] := by
  unfold m_impl_SiteNumber at h
  refine scalls_n (N := 6) (vars := [.tmp 2]) Tryz.func102 rfl rfl rfl (by decide +kernel) (Nat.le_of_ble_eq_true rfl) fun base wd => ?_
  refine sq (rn ?_)
  refine an (sq ?_)
  obtain ⟨x1, h2, h⟩ := bind_some h
  refine rn1 (c_slices_Index_string _ _ _ h2) ?_
  refine an (rt ?_)
  cases h
  simp [Ret, TB, EN, *]

set_option maxRecDepth 20000 in
set_option maxHeartbeats 4000000 in
theorem c_impl_AppliedOf (p0 : M.World) (p1 : ByteArray) (p2 : ByteArray) (r : (List M.Write)) (h : m_impl_AppliedOf p0 p1 p2 = some r) : SCalls Tryz.prog 36 [(true, M.World.en p0), (false, [.str p1]), (false, [.str p2])] [(false, [.own 176 7 (List.map M.Write.en r)])] := by
  unfold m_impl_AppliedOf at h
  simp only [M.World.en]
  refine scalls_n (N := 62) (vars := [.tmp 6]) Tryz.func36 rfl rfl rfl (by decide +kernel) (Nat.le_of_ble_eq_true rfl) fun base wd => ?_
  refine sq (rn ?_)
  refine an (sq (rn ?_))
  refine an (sq ?_)
  refine cu (fun s => s.t 1 = .v false [.dat (.str p1)] ∧ s.t 2 = .v false [.dat (.str p2)] ∧ s.t 3 = .v false [.bp 3 1 0] ∧ s.t 7 = .v false [.row 100013 1] ∧ s.h 3 = (1, .box 35 [.dat (.int .i64 p0.Now), .dat (.bool p0.Online), .dat (.int .i64 p0.Device), .dat (.sl (List.map M.Bucket.en p0.Storage.Buckets)), .dat (.sl (List.map M.Page.en p0.Pages)), .dat (.int .i64 p0.NextPage), .dat (.sl (List.map M.Lock.en p0.Locks.Locks)), .dat (.sl (List.map M.Mail.en p0.Channel.Mails)), .dat (.sl (List.map M.Site.en p0.Sites)), .dat (.sl (List.map M.Server.en p0.Servers))]) ∧ s.h 100013 = (1, .row 176 7 (List.map M.Write.en ([] : List M.Write)) true) ∧ True) ?_
  rintro s1 ⟨f2, f3, f4, f5, f6, f7, _⟩
  obtain ⟨x8, h9, h⟩ := bind_some h
  refine rn1 (c_impl_bucketOf _ _ _ _ h9) ?_
  refine an (sq ?_)
  obtain ⟨x10, h11, h⟩ := bind_some h
  refine rn1 (c_impl_SiteNumber _ _ h11) ?_
  refine an (sq (sq ?_))
  rcases bcase (!x8.2) with b12 | b12
  · replace h := ite_t b12 h
    refine rn ?_
    refine an (ct (sq (rn ?_)))
    refine an (rt ?_)
    cases h
    simp [Ret, TB, EN, *]
  replace h := ite_f b12 h
  rcases bcase (decide (x10 < 0)) with b13 | b13
  · replace h := ite_t b13 h
    refine rn ?_
    refine an (ct (sq (rn ?_)))
    refine an (rt ?_)
    cases h
    simp [Ret, TB, EN, *]
  replace h := ite_f b13 h
  refine rn ?_
  refine an ?_
  rcases bcase (decide (x10 ≥ (List.length p0.Servers : Int))) with b14 | b14
  · replace h := ite_t b14 h
    refine ct (sq (rn ?_))
    refine an (rt ?_)
    cases h
    simp [Ret, TB, EN, *]
  replace h := ite_f b14 h
  refine cf (sk (an (sq (sq ?_))))
  obtain ⟨x15, h16, h⟩ := bind_some h
  obtain ⟨q17, q18, q19⟩ := idx_some h16
  refine rn ?_
  refine an (bk ?_)
  refine SW_loop (fun m s => ∃ v44 : Int, ∃ r13 : List M.Write, ∃ u13 : Nat, s.t 7 = .v false [.row 100013 u13] ∧ s.t 8 = .v false [.bp 8 ((s1.h 8).1 + 1) 0] ∧ s.t 42 = .v false [.dat (.sl (List.map M.Write.en x15.Changes))] ∧ s.t 43 = .v false [.dat (.int .i64 (List.length x15.Changes : Int))] ∧ s.t 44 = .v false [.dat (.int .i64 v44)] ∧ s.h 8 = (((s1.h 8).1 + 1), .box 145 [.dat (.str x8.1.Site), .dat (.str x8.1.Top), .dat (.str x8.1.Registration.Site), .dat (.int .i64 x8.1.Registration.Installing), .dat (.int .i64 x8.1.Registration.Waiting), .dat (.int .i64 x8.1.Registration.Active), .dat (.sl (List.map M.Cache.en x8.1.Caches.Caches)), .dat (.str x8.1.Disk.Base.Name), .dat (.int .i64 x8.1.Disk.Base.Version), .dat (.sl (List.map M.Store.en x8.1.Disk.Base.Stores)), .dat (.sl (List.map M.IndexDef.en x8.1.Disk.Base.Unique)), .dat (.sl (List.map enB x8.1.Disk.Log)), .dat (.int .i64 x8.1.Disk.Count), .dat (.str x8.1.Replica.Base.Name), .dat (.sl (List.map M.Item.en x8.1.Replica.Base.Items)), .dat (.int .i64 x8.1.Replica.Base.Auto), .dat (.int .i64 x8.1.Replica.Seen), .dat (.int .i64 x8.1.Replica.Sync.Outbox.Device), .dat (.int .i64 x8.1.Replica.Sync.Outbox.Next), .dat (.sl (List.map M.Write.en x8.1.Replica.Sync.Outbox.Writes)), .dat (.int .i64 x8.1.Replica.Sync.Tries), .dat (.int .i64 x8.1.Replica.Sync.WaitUntil), .dat (.int .i64 x8.1.LastUsed), .dat (.bool x8.1.Persistent)]) ∧ s.h 100013 = (u13, .row 176 7 (List.map M.Write.en r13) true) ∧ m_impl_AppliedOf_L1 x8 x15 m v44 r13 = some r) fuel ?_ ?_
  · refine ⟨0, ([] : List M.Write), 1, ?_, ?_, ?_, ?_, ?_, ?_, ?_, h⟩
    all_goals simp +decide only [F, reduceIte, Nat.reduceAdd, Bool.not_true, Bool.not_false, EN, *, -h]
  rintro mL1 s20 ⟨v44, r13, u13, f21, f22, f23, f24, f25, f26, f27, h⟩
  rcases mL1 with _ | mL1
  · exact absurd h (by simp [m_impl_AppliedOf_L1])
  simp only [m_impl_AppliedOf_L1] at h
  refine sq (rn ?_)
  refine an (sq ?_)
  rcases bcas (decide (v44 < (List.length x15.Changes : Int))) with b28 | b28
  · replace h := ite_f b28 h
    refine cf (xt (aft_cx (aft_ix (aft_x (an (sq (rn ?_)))))))
    refine an (rt ?_)
    cases h
    simp [Ret, TB, EN, *]
  replace h := ite_t b28 h
  refine ct (sk (an (sq (bk (sq ?_)))))
  obtain ⟨x29, h30, h⟩ := bind_some h
  obtain ⟨q31, q32, q33⟩ := idx_some h30
  refine rn ?_
  refine an (sq (rn ?_))
  refine an ?_
  rcases bcas (x29.Device == x8.1.Replica.Sync.Outbox.Device) with b34 | b34
  · replace h := ite_f b34 h
    refine cf (sk (ab (an (rn ?_))))
    refine aft_i ⟨mL1, by omega, (IntKind.i64.wrap (v44 + 1)), r13, u13, ?_, ?_, ?_, ?_, ?_, ?_, ?_, h⟩
    all_goals simp +decide only [F, reduceIte, Nat.reduceAdd, Bool.not_true, Bool.not_false, EN, *, -h]
  replace h := ite_t b34 h
  refine ct ?_
  obtain ⟨x35, h36, h⟩ := bind_some h
  refine rn1 h36 ?_
  refine ab (an ?_)
  refine cu (fun s => s.t 7 = .v false [.row 100013 (u13 + 1)] ∧ s.t 8 = .v false [.bp 8 ((s1.h 8).1 + 1) 0] ∧ s.t 42 = .v false [.dat (.sl (List.map M.Write.en x15.Changes))] ∧ s.t 43 = .v false [.dat (.int .i64 (List.length x15.Changes : Int))] ∧ s.t 44 = .v false [.dat (.int .i64 v44)] ∧ s.h 8 = (((s1.h 8).1 + 1), .box 145 [.dat (.str x8.1.Site), .dat (.str x8.1.Top), .dat (.str x8.1.Registration.Site), .dat (.int .i64 x8.1.Registration.Installing), .dat (.int .i64 x8.1.Registration.Waiting), .dat (.int .i64 x8.1.Registration.Active), .dat (.sl (List.map M.Cache.en x8.1.Caches.Caches)), .dat (.str x8.1.Disk.Base.Name), .dat (.int .i64 x8.1.Disk.Base.Version), .dat (.sl (List.map M.Store.en x8.1.Disk.Base.Stores)), .dat (.sl (List.map M.IndexDef.en x8.1.Disk.Base.Unique)), .dat (.sl (List.map enB x8.1.Disk.Log)), .dat (.int .i64 x8.1.Disk.Count), .dat (.str x8.1.Replica.Base.Name), .dat (.sl (List.map M.Item.en x8.1.Replica.Base.Items)), .dat (.int .i64 x8.1.Replica.Base.Auto), .dat (.int .i64 x8.1.Replica.Seen), .dat (.int .i64 x8.1.Replica.Sync.Outbox.Device), .dat (.int .i64 x8.1.Replica.Sync.Outbox.Next), .dat (.sl (List.map M.Write.en x8.1.Replica.Sync.Outbox.Writes)), .dat (.int .i64 x8.1.Replica.Sync.Tries), .dat (.int .i64 x8.1.Replica.Sync.WaitUntil), .dat (.int .i64 x8.1.LastUsed), .dat (.bool x8.1.Persistent)]) ∧ s.h 100013 = ((u13 + 1), .row 176 7 (List.map M.Write.en (r13 ++ [x29])) true) ∧ True) ?_
  rintro s37 ⟨f38, f39, f40, f41, f42, f43, f44, _⟩
  refine rn ?_
  refine aft_i ⟨mL1, by omega, (IntKind.i64.wrap (v44 + 1)), (r13 ++ [x29]), (u13 + 1), ?_, ?_, ?_, ?_, ?_, ?_, ?_, h⟩
  all_goals simp +decide only [F, reduceIte, Nat.reduceAdd, Bool.not_true, Bool.not_false, EN, *, -h]

end Go.Proofs.YtcpahpbjjnekkaaGreat.gen
