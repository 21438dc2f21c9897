/-
  Helper text: walks: each function's contract out of its model. No conditions beyond those of each contract.
-/
import Derived.Test.YtcpahpbjjnekkaaGreatWorkerVersionsTi
namespace Go.Proofs.YtcpahpbjjnekkaaGreat.gen
open Go Go.Sh
set_option linter.unusedVariables false
set_option linter.unusedSimpArgs false
set_option maxRecDepth 20000 in
set_option maxHeartbeats 4000000 in
theorem c_impl_FindBucket_1 (p0 : M.Bucket) (c0 : ByteArray) (c1 : ByteArray) (r : Bool) (h : m_impl_FindBucket_1 p0 c0 c1 = some r) : SCalls Tryz.prog 198 [(true, M.Bucket.en p0), (false, [.ptr [.str c0]]), (false, [.ptr [.str c1]])] [(false, [.ro (.bool r)])] := by
  unfold m_impl_FindBucket_1 at h
  simp only [M.Bucket.en]
  refine scalls_n (N := 15) (vars := [.tmp 4]) Tryz.func198 rfl rfl rfl (by decide +kernel) (Nat.le_of_ble_eq_true rfl) fun base wd => ?_
  refine sq (rn ?_)
  refine an (sq ?_)
  rcases bcase (p0.Site.toList == c0.toList) with b1 | b1
  · replace h := ite_t b1 h
    refine rn ?_
    refine an (rt ?_)
    cases h
    simp [Ret, TB, EN, *]
  replace h := ite_f b1 h
  refine rn ?_
  refine an (rt ?_)
  cases h
  simp [Ret, TB, EN, *]

set_option maxRecDepth 20000 in
set_option maxHeartbeats 4000000 in
theorem c_slices_IndexFunc_Bucket (p0 : List M.Bucket) (p1 : M.Bucket → Option Bool) (f1_ : FuncId) (k1_ : List D) (hp1 : ∀ z0 r, p1 z0 = some r → SCalls Tryz.prog f1_ ((true, M.Bucket.en z0) ::  k1_.map fun c => (false, [c])) [(false, [.ro (.bool r)])]) (r : Int) (h : m_slices_IndexFunc_Bucket p0 p1 = some r) : SCalls Tryz.prog 197 [(false, [.sl (List.map M.Bucket.en p0)]), (false, [.fn f1_ k1_])] [(false, [.ro (.int .i64 r)])] := by
  unfold m_slices_IndexFunc_Bucket at h
  refine scalls_n (N := 19) (vars := [.tmp 4]) Tryz.func197 rfl rfl rfl (by decide +kernel) (Nat.le_of_ble_eq_true rfl) fun base wd => ?_
  refine sq (rn ?_)
  refine an (sq (sq (rn ?_)))
  refine an (bk ?_)
  refine SW_loop (fun m s => ∃ v8 : Int, s.t 0 = .v false [.dat (.sl (List.map M.Bucket.en p0))] ∧ s.t 1 = .v false [.dat (.fn f1_ k1_)] ∧ s.t 7 = .v false [.dat (.int .i64 (List.length p0 : Int))] ∧ s.t 8 = .v false [.dat (.int .i64 v8)] ∧ m_slices_IndexFunc_Bucket_L1 p0 p1 m v8 = some r) fuel ?_ ?_
  · refine ⟨0, ?_, ?_, ?_, ?_, h⟩
    all_goals simp +decide only [F, reduceIte, Nat.reduceAdd, Bool.not_true, Bool.not_false, EN, *, -h]
  rintro mL1 s1 ⟨v8, f2, f3, f4, f5, h⟩
  rcases mL1 with _ | mL1
  · exact absurd h (by simp [m_slices_IndexFunc_Bucket_L1])
  simp only [m_slices_IndexFunc_Bucket_L1] at h
  refine sq (rn ?_)
  refine an (sq ?_)
  rcases bcas (decide (v8 < (List.length p0 : Int))) with b6 | b6
  · replace h := ite_f b6 h
    refine cf (xt (aft_cx (aft_ix (aft_x (an (sq (rn ?_)))))))
    refine an (rt ?_)
    cases h
    simp [Ret, TB, EN, *]
  replace h := ite_t b6 h
  refine ct (sk (an (sq (bk (sq (rn ?_))))))
  refine an (sq ?_)
  obtain ⟨x7, h8, h⟩ := bind_some h
  obtain ⟨q9, q10, q11⟩ := idx_some h8
  obtain ⟨x12, h13, h⟩ := bind_some h
  refine rn1 (hp1 x7 x12 h13) ?_
  refine an ?_
  rcases bcase x12 with b14 | b14
  · replace h := ite_t b14 h
    refine ct (sq (rn ?_))
    refine an (rt ?_)
    cases h
    simp [Ret, TB, EN, *]
  replace h := ite_f b14 h
  refine cf (sk (ab (an (rn ?_))))
  refine aft_i ⟨mL1, by omega, (IntKind.i64.wrap (v8 + 1)), ?_, ?_, ?_, ?_, h⟩
  all_goals simp +decide only [F, reduceIte, Nat.reduceAdd, Bool.not_true, Bool.not_false, EN, *, -h]

set_option maxRecDepth 20000 in
set_option maxHeartbeats 4000000 in
theorem c_impl_FindBucket (p0 : M.Storage) (p1 : ByteArray) (p2 : ByteArray) (r : Int) (h : m_impl_FindBucket p0 p1 p2 = some r) : SCalls Tryz.prog 123 [(true, M.Storage.en p0), (false, [.str p1]), (false, [.str p2])] [(false, [.ro (.int .i64 r)])] := by
  unfold m_impl_FindBucket at h
  simp only [M.Storage.en]
  refine scalls_n (N := 11) (vars := [.tmp 6]) Tryz.func123 rfl rfl rfl (by decide +kernel) (Nat.le_of_ble_eq_true rfl) fun base wd => ?_
  refine sq (rn ?_)
  refine an (sq ?_)
  obtain ⟨x1, h2, h⟩ := bind_some h
  refine rn1 (c_slices_IndexFunc_Bucket p0.Buckets (fun z0 => m_impl_FindBucket_1 z0 p1 p2) 198 [.ptr [.str p1], .ptr [.str p2]] (fun z0 r hr => c_impl_FindBucket_1 z0 p1 p2 r hr) x1 h2) ?_
  refine an (rt ?_)
  cases h
  simp [Ret, TB, EN, *]

set_option maxRecDepth 20000 in
set_option maxHeartbeats 4000000 in
theorem c_impl_bucketOf (p0 : M.World) (p1 : ByteArray) (p2 : ByteArray) (r : (M.Bucket × Bool)) (h : m_impl_bucketOf p0 p1 p2 = some r) : SCalls Tryz.prog 83 [(true, M.World.en p0), (false, [.str p1]), (false, [.str p2])] [(true, [.ro (.str r.1.Site), .ro (.str r.1.Top), .ro (.str r.1.Registration.Site), .ro (.int .i64 r.1.Registration.Installing), .ro (.int .i64 r.1.Registration.Waiting), .ro (.int .i64 r.1.Registration.Active), .any (.sl (List.map M.Cache.en r.1.Caches.Caches)), .ro (.str r.1.Disk.Base.Name), .ro (.int .i64 r.1.Disk.Base.Version), .any (.sl (List.map M.Store.en r.1.Disk.Base.Stores)), .any (.sl (List.map M.IndexDef.en r.1.Disk.Base.Unique)), .any (.sl (List.map enB r.1.Disk.Log)), .ro (.int .i64 r.1.Disk.Count), .ro (.str r.1.Replica.Base.Name), .any (.sl (List.map M.Item.en r.1.Replica.Base.Items)), .ro (.int .i64 r.1.Replica.Base.Auto), .ro (.int .i64 r.1.Replica.Seen), .ro (.int .i64 r.1.Replica.Sync.Outbox.Device), .ro (.int .i64 r.1.Replica.Sync.Outbox.Next), .any (.sl (List.map M.Write.en r.1.Replica.Sync.Outbox.Writes)), .ro (.int .i64 r.1.Replica.Sync.Tries), .ro (.int .i64 r.1.Replica.Sync.WaitUntil), .ro (.int .i64 r.1.LastUsed), .ro (.bool r.1.Persistent)]), (false, [.ro (.bool r.2)])] := by
  unfold m_impl_bucketOf at h
  simp only [M.World.en]
  refine scalls_n (N := 23) (vars := [.cell 6 145, .tmp 7]) Tryz.func83 rfl rfl rfl (by decide +kernel) (Nat.le_of_ble_eq_true rfl) fun base wd => ?_
  refine sq (rn ?_)
  refine an (sq ?_)
  obtain ⟨x1, h2, h⟩ := bind_some h
  refine rn1 (c_impl_FindBucket _ _ _ _ h2) ?_
  refine an (sq (sq (rn ?_)))
  refine an ?_
  rcases bcase (decide (x1 < 0)) with b3 | b3
  · replace h := ite_t b3 h
    refine ct (sq (rn ?_))
    refine an (rt ?_)
    cases h
    simp [Ret, TB, EN, *]
  replace h := ite_f b3 h
  refine cf (sk (an (sq ?_)))
  obtain ⟨x4, h5, h⟩ := bind_some h
  obtain ⟨q6, q7, q8⟩ := idx_some h5
  refine rn ?_
  refine an (rt ?_)
  cases h
  simp [Ret, TB, EN, *]

set_option maxRecDepth 20000 in
set_option maxHeartbeats 4000000 in
theorem c_impl_WorkerVersions (p0 : M.World) (p1 : ByteArray) (p2 : ByteArray) (r : (List Int)) (h : m_impl_WorkerVersions p0 p1 p2 = some r) : SCalls Tryz.prog 26 [(true, M.World.en p0), (false, [.str p1]), (false, [.str p2])] [(false, [.own 3 1 (List.map enI r)])] := by
  unfold m_impl_WorkerVersions at h
  simp only [M.World.en]
  refine scalls_n (N := 29) (vars := [.tmp 6]) Tryz.func26 rfl rfl rfl (by decide +kernel) (Nat.le_of_ble_eq_true rfl) fun base wd => ?_
  refine sq (rn ?_)
  refine an (sq ?_)
  obtain ⟨x1, h2, h⟩ := bind_some h
  refine rn1 (c_impl_bucketOf _ _ _ _ h2) ?_
  refine an (sq (sq (rn ?_)))
  refine an ?_
  rcases bcase (!x1.2) with b3 | b3
  · replace h := ite_t b3 h
    refine ct (sq (rn ?_))
    refine an (rt ?_)
    cases h
    simp [Ret, TB, EN, *]
  replace h := ite_f b3 h
  refine cf (sk (an (sq (rn ?_))))
  refine an (rt ?_)
  cases h
  simp [Ret, TB, EN, *]

end Go.Proofs.YtcpahpbjjnekkaaGreat.gen
