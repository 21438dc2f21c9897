/-
  Helper text: walks: each function's contract out of its model. No conditions beyond those of each contract.
-/
import Derived.Test.YtgemmnkhddlhpaaGreatPutBucketTi
import Derived.Test.YtgemmnkhddlhpaaGreatPutBucketWeq
import Derived.Test.YtgemmnkhddlhpaaGreatPutBucketWheld
import Derived.Test.YtgemmnkhddlhpaaGreatPutBucketWimpl1
import Derived.Test.YtgemmnkhddlhpaaGreatPutBucketWmark1
import Derived.Test.YtgemmnkhddlhpaaGreatPutBucketWspec1
import Derived.Test.YtgemmnkhddlhpaaGreatPutBucketWsz
import Derived.Test.YtgemmnkhddlhpaaGreatPutBucketWto
namespace Go.Proofs.YtgemmnkhddlhpaaGreat.gen
open Go Go.Sh
set_option linter.unusedVariables false
set_option linter.unusedSimpArgs false
set_option maxRecDepth 20000
set_option maxHeartbeats 4000000
set_option maxRecDepth 20000 in
set_option maxHeartbeats 4000000 in
theorem c_laws_FnExactPutBucket (p0 : M.Storage) (p1 : M.Bucket) (r : Bool) (h : m_laws_FnExactPutBucket p0 p1 = some r) : SCalls Tryz.prog 8 [(true, M.Storage.en p0), (true, M.Bucket.en p1)] [(false, [.ro (.bool r)])] := by
  unfold m_laws_FnExactPutBucket at h
  simp only [M.Bucket.en, M.Storage.en]
  refine scallsL (N := 119) (vars := [.tmp 4]) Tryz.func8 rfl rfl rfl (by decide +kernel) (Nat.le_of_ble_eq_true rfl) fun base wd => ?_
  refine sq (ln ?_)
  refine an (sq (ln ?_))
  refine an (sq ?_)
  obtain ⟨x1, h2, h⟩ := bind_some h
  refine ln1 (c42 _ _ _ h2) ?_
  refine an (sq (sq (ln ?_)))
  refine an ?_
  rcases bcase (decide (x1 < 0)) with b3 | b3
  · replace h := ite_t b3 h
    refine lct (sq (ln ?_))
    refine an (rt ?_)
    cases h
    simp [Ret, TB, EN, *]
  replace h := ite_f b3 h
  refine lcf (sk (an (sq ?_)))
  obtain ⟨x4, h5, h⟩ := bind_some h
  refine ln1 (c20 _ _ _ h5) ?_
  refine an (sq (sq (ln ?_)))
  refine an ?_
  rcases bcase (decide (x4 < 0)) with b6 | b6
  · replace h := ite_t b6 h
    refine lct (sq (ln ?_))
    refine an (rt ?_)
    cases h
    simp [Ret, TB, EN, *]
  replace h := ite_f b6 h
  refine lcf (sk (an (sq ?_)))
  obtain ⟨x7, h8, h⟩ := bind_some h
  obtain ⟨x9, h10, h⟩ := bind_some h
  obtain ⟨x11, h12, h⟩ := bind_some h
  apply SW_runD mixed
  · simp +decide only [LX, E, reduceIte, Nat.reduceAdd, Nat.reduceMul, Bool.not_true, Bool.not_false, L, ti53, ti69, ti104, EN, b3, b6]
    refine ⟨_, c44 _ _ h8, ?_⟩
    try simp +decide only [LX, E, reduceIte, Nat.reduceAdd, Nat.reduceMul, Bool.not_true, Bool.not_false, L, ti53, ti69, ti104, EN, b3, b6]
    refine ⟨_, c23 _ _ h10, ?_⟩
    try simp +decide only [LX, E, reduceIte, Nat.reduceAdd, Nat.reduceMul, Bool.not_true, Bool.not_false, L, ti53, ti69, ti104, EN, b3, b6]
    refine ⟨_, c43 _ _ _ h12, ?_⟩
    try simp +decide only [LX, E, reduceIte, Nat.reduceAdd, Nat.reduceMul, Bool.not_true, Bool.not_false, L, ti53, ti69, ti104, EN, b3, b6]
    exact ⟨.mk (by decide +kernel), Is.mk _⟩
  refine an (sq ?_)
  obtain ⟨x13, h14, h⟩ := bind_some h
  refine ln1 (c44 _ _ h14) ?_
  refine an (sq ?_)
  obtain ⟨x15, h16, h⟩ := bind_some h
  refine ln1 (c23 _ _ h16) ?_
  refine an (sq ?_)
  obtain ⟨x17, h18, h⟩ := bind_some h
  refine ln1 (c45 _ _ _ h18) ?_
  refine an (sq (sq ?_))
  obtain ⟨x19, h20, h⟩ := bind_some h
  rcases bcase (!x19) with b21 | b21
  · replace h := ite_t b21 h
    refine ln1 (c46 _ _ _ h20) ?_
    refine an (lct (sq (ln ?_)))
    refine an (rt ?_)
    cases h
    simp [Ret, TB, EN, *]
  replace h := ite_f b21 h
  refine ln1 (c46 _ _ _ h20) ?_
  refine an ?_
  rcases bcase (!(x17.2 == x11.2)) with b22 | b22
  · replace h := ite_t b22 h
    refine lct (sq (ln ?_))
    refine an (rt ?_)
    cases h
    simp [Ret, TB, EN, *]
  replace h := ite_f b22 h
  refine lcf (sk (an (sq (sq ?_))))
  obtain ⟨x23, h24, h⟩ := bind_some h
  obtain ⟨x25, h26, h⟩ := bind_some h
  refine ld2 mixed (c44 _ _ h24) (c46 _ _ _ h26) ?_
  refine an ?_
  rcases bcase (!x25) with b27 | b27
  · replace h := ite_t b27 h
    refine lct (sq (ln ?_))
    refine an (rt ?_)
    cases h
    simp [Ret, TB, EN, *]
  replace h := ite_f b27 h
  refine lcf (sk (an (sq (sq ?_))))
  obtain ⟨x28, h29, h⟩ := bind_some h
  obtain ⟨x30, h31, h⟩ := bind_some h
  refine ld2 mixed (c23 _ _ h29) (c12 _ _ _ h31) ?_
  refine an ?_
  rcases bcase (!x30) with b32 | b32
  · replace h := ite_t b32 h
    refine lct (sq (ln ?_))
    refine an (rt ?_)
    cases h
    simp [Ret, TB, EN, *]
  replace h := ite_f b32 h
  refine lcf (sk (an (sq (ln ?_))))
  refine an (sq ?_)
  refine lcu (fun s => s.t 2 = .v false [.bp 2 1 0] ∧ s.t 3 = .v false [.bp 3 1 0] ∧ s.t 6 = .v false [.bp 6 1 0] ∧ s.t 7 = .v false [.dat (.bool x11.2)] ∧ s.t 8 = .v false [.bp 8 1 0] ∧ s.t 9 = .v false [.bp 9 1 0] ∧ s.t 10 = .v false [.bp 10 1 0] ∧ s.t 11 = .v false [.dat (.bool x17.2)] ∧ s.t 12 = .v false [.dat (.int .i64 1)] ∧ s.h 2 = (1, .box 53 [.old base (.sl (List.map M.Bucket.en p0.Buckets))]) ∧ s.h 3 = (1, .box 104 [.dat (.str p1.Site), .dat (.str p1.Top), .dat (.str p1.Registration.Site), .dat (.int .i64 p1.Registration.Installing), .dat (.int .i64 p1.Registration.Waiting), .dat (.int .i64 p1.Registration.Active), .old base (.sl (List.map M.Cache.en p1.Caches.Caches)), .dat (.str p1.Disk.Base.Name), .dat (.int .i64 p1.Disk.Base.Version), .old base (.sl (List.map M.Store.en p1.Disk.Base.Stores)), .old base (.sl (List.map M.IndexDef.en p1.Disk.Base.Unique)), .old base (.sl (List.map enB p1.Disk.Log)), .dat (.int .i64 p1.Disk.Count), .dat (.str p1.Replica.Base.Name), .old base (.sl (List.map M.Item.en p1.Replica.Base.Items)), .dat (.int .i64 p1.Replica.Base.Auto), .dat (.int .i64 p1.Replica.Seen), .dat (.int .i64 p1.Replica.Sync.Outbox.Device), .dat (.int .i64 p1.Replica.Sync.Outbox.Next), .old base (.sl (List.map M.Write.en p1.Replica.Sync.Outbox.Writes)), .dat (.int .i64 p1.Replica.Sync.Tries), .dat (.int .i64 p1.Replica.Sync.WaitUntil), .dat (.int .i64 p1.LastUsed), .dat (.bool p1.Persistent)]) ∧ s.h 6 = (1, .box 69 [.row 100032 1]) ∧ s.h 8 = (1, .box 69 [.row 100036 1]) ∧ s.h 9 = (1, .box 45 [.dat (.str x15.Site), .dat (.str x15.Top), .dat (.str x15.Registration.Site), .dat (.int .i64 x15.Registration.Installing), .dat (.int .i64 x15.Registration.Waiting), .dat (.int .i64 x15.Registration.Active), .row 700038 1, .dat (.str x15.Disk.Base.Name), .dat (.int .i64 x15.Disk.Base.Version), .row 1000038 1, .row 1100038 1, .row 1200038 1, .dat (.int .i64 x15.Disk.Count), .dat (.str x15.Replica.Base.Name), .row 1500038 1, .dat (.int .i64 x15.Replica.Base.Auto), .dat (.int .i64 x15.Replica.Seen), .dat (.int .i64 x15.Replica.Sync.Outbox.Device), .dat (.int .i64 x15.Replica.Sync.Outbox.Next), .row 2000038 1, .dat (.int .i64 x15.Replica.Sync.Tries), .dat (.int .i64 x15.Replica.Sync.WaitUntil), .dat (.int .i64 x15.LastUsed), .dat (.bool x15.Persistent)]) ∧ s.h 10 = (1, .box 69 [.row 100042 1]) ∧ s.h 100032 = (1, .row 45 24 (List.map M.Bucket.en x11.1.Buckets) true) ∧ s.h 100036 = (1, .row 45 24 (List.map M.Bucket.en x13.Buckets) true) ∧ s.h 100042 = (1, .row 45 24 (List.map M.Bucket.en x17.1.Buckets) true) ∧ s.h 700038 = (1, .row 297 2 (List.map M.Cache.en x15.Caches.Caches) true) ∧ s.h 1000038 = (1, .row 36 3 (List.map M.Store.en x15.Disk.Base.Stores) true) ∧ s.h 1100038 = (1, .row 337 2 (List.map M.IndexDef.en x15.Disk.Base.Unique) true) ∧ s.h 1200038 = (1, .row 5 1 (List.map enB x15.Disk.Log) true) ∧ s.h 1500038 = (1, .row 315 4 (List.map M.Item.en x15.Replica.Base.Items) true) ∧ s.h 2000038 = (1, .row 261 7 (List.map M.Write.en x15.Replica.Sync.Outbox.Writes) true) ∧ True) ?_
  rintro s33 ⟨f34, f35, f36, f37, f38, f39, f40, f41, f42, f43, f44, f45, f46, f47, f48, f49, f50, f51, f52, f53, f54, f55, f56, f57, _⟩
  obtain ⟨x58, h59, h⟩ := bind_some h
  refine SW_mark (n := 2) (x := 64) (y := 65) (d := 66) (ag := true) (cs := [.row 100036 1]) (k := 1) [2, 3, 6, 7, 9, 10, 11, 12] [2, 3, 6, 9, 10, 100032, 100042, 700038, 1000038, 1100038, 1200038, 1500038, 2000038] rfl rfl rfl rfl rfl (by decide) ?_ ?_ ?_ (c_laws_markStorage x13 1 x58 h59) ?_ (by simp +decide [mkIds]) ?_ ?_ ?_ ?_ (s1 := ?S139) (s3 := ?S140)
  rotate_left 2
  · simp +decide only [LX, E, reduceIte, Nat.reduceAdd, Nat.reduceMul, Int.reduceEq, Int.reduceLT, Bool.not_true, Bool.not_false, L, TB, EN, *, -h]
    exact Is.mk _
  · simp +decide only [LX, F, reduceIte, Nat.reduceAdd, Bool.not_true, Bool.not_false, EN, *, -h]
  · simp +decide only [LX, F, reduceIte, Nat.reduceAdd, Bool.not_true, Bool.not_false, EN, *, -h]
  · refine ⟨45, 24, List.map M.Bucket.en x13.Buckets, List.map M.Bucket.en x58.1, _, _, by simp +decide only [LX, F, reduceIte, Nat.reduceAdd, Bool.not_true, Bool.not_false, EN, *, -h], mapLen (f := M.Bucket.en) (fun _ => rfl) _, rfl, rfl, ?_⟩
    exact ⟨rfl, rfl⟩
  · simp +decide only [LC, LX, F, reduceIte, Nat.reduceAdd, Bool.not_true, Bool.not_false, EN, *, -h]
  · simp +decide only [LC, LX, F, reduceIte, Nat.reduceAdd, Bool.not_true, Bool.not_false, EN, *, -h]
  · simp +decide only [LX, E, reduceIte, Nat.reduceAdd, Nat.reduceMul, Int.reduceEq, Int.reduceLT, Bool.not_true, Bool.not_false, L, TB, EN, *, -h]
    exact Is.mk _
  refine an (sq ?_)
  refine lcu (fun s => s.t 2 = .v false [.bp 2 1 0] ∧ s.t 3 = .v false [.bp 3 1 0] ∧ s.t 6 = .v false [.bp 6 1 0] ∧ s.t 7 = .v false [.dat (.bool x11.2)] ∧ s.t 9 = .v false [.bp 9 1 0] ∧ s.t 10 = .v false [.bp 10 1 0] ∧ s.t 11 = .v false [.dat (.bool x17.2)] ∧ s.t 12 = .v false [.dat (.int .i64 x58.2)] ∧ s.h 2 = (1, .box 53 [.old base (.sl (List.map M.Bucket.en p0.Buckets))]) ∧ s.h 3 = (1, .box 104 [.dat (.str p1.Site), .dat (.str p1.Top), .dat (.str p1.Registration.Site), .dat (.int .i64 p1.Registration.Installing), .dat (.int .i64 p1.Registration.Waiting), .dat (.int .i64 p1.Registration.Active), .old base (.sl (List.map M.Cache.en p1.Caches.Caches)), .dat (.str p1.Disk.Base.Name), .dat (.int .i64 p1.Disk.Base.Version), .old base (.sl (List.map M.Store.en p1.Disk.Base.Stores)), .old base (.sl (List.map M.IndexDef.en p1.Disk.Base.Unique)), .old base (.sl (List.map enB p1.Disk.Log)), .dat (.int .i64 p1.Disk.Count), .dat (.str p1.Replica.Base.Name), .old base (.sl (List.map M.Item.en p1.Replica.Base.Items)), .dat (.int .i64 p1.Replica.Base.Auto), .dat (.int .i64 p1.Replica.Seen), .dat (.int .i64 p1.Replica.Sync.Outbox.Device), .dat (.int .i64 p1.Replica.Sync.Outbox.Next), .old base (.sl (List.map M.Write.en p1.Replica.Sync.Outbox.Writes)), .dat (.int .i64 p1.Replica.Sync.Tries), .dat (.int .i64 p1.Replica.Sync.WaitUntil), .dat (.int .i64 p1.LastUsed), .dat (.bool p1.Persistent)]) ∧ s.h 6 = (1, .box 69 [.row 100032 1]) ∧ s.h 9 = (1, .box 45 [.dat (.str x15.Site), .dat (.str x15.Top), .dat (.str x15.Registration.Site), .dat (.int .i64 x15.Registration.Installing), .dat (.int .i64 x15.Registration.Waiting), .dat (.int .i64 x15.Registration.Active), .row 700038 1, .dat (.str x15.Disk.Base.Name), .dat (.int .i64 x15.Disk.Base.Version), .row 1000038 1, .row 1100038 1, .row 1200038 1, .dat (.int .i64 x15.Disk.Count), .dat (.str x15.Replica.Base.Name), .row 1500038 1, .dat (.int .i64 x15.Replica.Base.Auto), .dat (.int .i64 x15.Replica.Seen), .dat (.int .i64 x15.Replica.Sync.Outbox.Device), .dat (.int .i64 x15.Replica.Sync.Outbox.Next), .row 2000038 1, .dat (.int .i64 x15.Replica.Sync.Tries), .dat (.int .i64 x15.Replica.Sync.WaitUntil), .dat (.int .i64 x15.LastUsed), .dat (.bool x15.Persistent)]) ∧ s.h 10 = (1, .box 69 [.row 100042 1]) ∧ s.h 100032 = (1, .row 45 24 (List.map M.Bucket.en x11.1.Buckets) true) ∧ s.h 100042 = (1, .row 45 24 (List.map M.Bucket.en x17.1.Buckets) true) ∧ s.h 700038 = (1, .row 297 2 (List.map M.Cache.en x15.Caches.Caches) true) ∧ s.h 1000038 = (1, .row 36 3 (List.map M.Store.en x15.Disk.Base.Stores) true) ∧ s.h 1100038 = (1, .row 337 2 (List.map M.IndexDef.en x15.Disk.Base.Unique) true) ∧ s.h 1200038 = (1, .row 5 1 (List.map enB x15.Disk.Log) true) ∧ s.h 1500038 = (1, .row 315 4 (List.map M.Item.en x15.Replica.Base.Items) true) ∧ s.h 2000038 = (1, .row 261 7 (List.map M.Write.en x15.Replica.Sync.Outbox.Writes) true) ∧ True) ?_
  rintro s60 ⟨f61, f62, f63, f64, f65, f66, f67, f68, f69, f70, f71, f72, f73, f74, f75, f76, f77, f78, f79, f80, f81, _⟩
  obtain ⟨x82, h83, h⟩ := bind_some h
  refine SW_mark (n := 2) (x := 67) (y := 68) (d := 69) (ag := true) (cs := [.dat (.str x15.Site), .dat (.str x15.Top), .dat (.str x15.Registration.Site), .dat (.int .i64 x15.Registration.Installing), .dat (.int .i64 x15.Registration.Waiting), .dat (.int .i64 x15.Registration.Active), .row 700038 1, .dat (.str x15.Disk.Base.Name), .dat (.int .i64 x15.Disk.Base.Version), .row 1000038 1, .row 1100038 1, .row 1200038 1, .dat (.int .i64 x15.Disk.Count), .dat (.str x15.Replica.Base.Name), .row 1500038 1, .dat (.int .i64 x15.Replica.Base.Auto), .dat (.int .i64 x15.Replica.Seen), .dat (.int .i64 x15.Replica.Sync.Outbox.Device), .dat (.int .i64 x15.Replica.Sync.Outbox.Next), .row 2000038 1, .dat (.int .i64 x15.Replica.Sync.Tries), .dat (.int .i64 x15.Replica.Sync.WaitUntil), .dat (.int .i64 x15.LastUsed), .dat (.bool x15.Persistent)]) (k := x58.2) [2, 3, 6, 7, 10, 11, 12] [2, 3, 6, 10, 100032, 100042] rfl rfl rfl rfl rfl (by decide) ?_ ?_ ?_ (c_laws_markBucket x15 x58.2 x82 h83) ?_ (by simp +decide [mkIds]) ?_ ?_ ?_ ?_ (s1 := ?S137) (s3 := ?S138)
  rotate_left 2
  · simp +decide only [LX, E, reduceIte, Nat.reduceAdd, Nat.reduceMul, Int.reduceEq, Int.reduceLT, Bool.not_true, Bool.not_false, L, TB, EN, *, -h]
    exact Is.mk _
  · simp +decide only [LX, F, reduceIte, Nat.reduceAdd, Bool.not_true, Bool.not_false, EN, *, -h]
  · simp +decide only [LX, F, reduceIte, Nat.reduceAdd, Bool.not_true, Bool.not_false, EN, *, -h]
  · refine ⟨_, _, rfl, rfl, rfl, ?_⟩
    refine ⟨_, _, rfl, rfl, rfl, ?_⟩
    refine ⟨_, _, rfl, rfl, rfl, ?_⟩
    refine ⟨_, _, rfl, rfl, rfl, ?_⟩
    refine ⟨_, _, rfl, rfl, rfl, ?_⟩
    refine ⟨_, _, rfl, rfl, rfl, ?_⟩
    refine ⟨297, 2, List.map M.Cache.en x15.Caches.Caches, List.map M.Cache.en x82.1, _, _, by simp +decide only [LX, F, reduceIte, Nat.reduceAdd, Bool.not_true, Bool.not_false, EN, *, -h], mapLen (f := M.Cache.en) (fun _ => rfl) _, rfl, rfl, ?_⟩
    refine ⟨_, _, rfl, rfl, rfl, ?_⟩
    refine ⟨_, _, rfl, rfl, rfl, ?_⟩
    refine ⟨36, 3, List.map M.Store.en x15.Disk.Base.Stores, List.map M.Store.en x82.2.1, _, _, by simp +decide only [LX, F, reduceIte, Nat.reduceAdd, Bool.not_true, Bool.not_false, EN, *, -h], mapLen (f := M.Store.en) (fun _ => rfl) _, rfl, rfl, ?_⟩
    refine ⟨337, 2, List.map M.IndexDef.en x15.Disk.Base.Unique, List.map M.IndexDef.en x82.2.2.1, _, _, by simp +decide only [LX, F, reduceIte, Nat.reduceAdd, Bool.not_true, Bool.not_false, EN, *, -h], mapLen (f := M.IndexDef.en) (fun _ => rfl) _, rfl, rfl, ?_⟩
    refine ⟨5, 1, List.map enB x15.Disk.Log, List.map enB x82.2.2.2.1, _, _, by simp +decide only [LX, F, reduceIte, Nat.reduceAdd, Bool.not_true, Bool.not_false, EN, *, -h], mapLen (f := enB) (fun _ => rfl) _, rfl, rfl, ?_⟩
    refine ⟨_, _, rfl, rfl, rfl, ?_⟩
    refine ⟨_, _, rfl, rfl, rfl, ?_⟩
    refine ⟨315, 4, List.map M.Item.en x15.Replica.Base.Items, List.map M.Item.en x82.2.2.2.2.1, _, _, by simp +decide only [LX, F, reduceIte, Nat.reduceAdd, Bool.not_true, Bool.not_false, EN, *, -h], mapLen (f := M.Item.en) (fun _ => rfl) _, rfl, rfl, ?_⟩
    refine ⟨_, _, rfl, rfl, rfl, ?_⟩
    refine ⟨_, _, rfl, rfl, rfl, ?_⟩
    refine ⟨_, _, rfl, rfl, rfl, ?_⟩
    refine ⟨_, _, rfl, rfl, rfl, ?_⟩
    refine ⟨261, 7, List.map M.Write.en x15.Replica.Sync.Outbox.Writes, List.map M.Write.en x82.2.2.2.2.2.1, _, _, by simp +decide only [LX, F, reduceIte, Nat.reduceAdd, Bool.not_true, Bool.not_false, EN, *, -h], mapLen (f := M.Write.en) (fun _ => rfl) _, rfl, rfl, ?_⟩
    refine ⟨_, _, rfl, rfl, rfl, ?_⟩
    refine ⟨_, _, rfl, rfl, rfl, ?_⟩
    refine ⟨_, _, rfl, rfl, rfl, ?_⟩
    refine ⟨_, _, rfl, rfl, rfl, ?_⟩
    exact ⟨rfl, rfl⟩
  · simp +decide only [LC, LX, F, reduceIte, Nat.reduceAdd, Bool.not_true, Bool.not_false, EN, *, -h]
  · simp +decide only [LC, LX, F, reduceIte, Nat.reduceAdd, Bool.not_true, Bool.not_false, EN, *, -h]
  · simp +decide only [LX, E, reduceIte, Nat.reduceAdd, Nat.reduceMul, Int.reduceEq, Int.reduceLT, Bool.not_true, Bool.not_false, L, TB, EN, *, -h]
    exact Is.mk _
  refine an (sq (sq ?_))
  refine lcu (fun s => s.t 2 = .v false [.bp 2 1 0] ∧ s.t 3 = .v false [.bp 3 1 0] ∧ s.t 6 = .v false [.bp 6 1 0] ∧ s.t 7 = .v false [.dat (.bool x11.2)] ∧ s.t 10 = .v false [.bp 10 1 0] ∧ s.t 11 = .v false [.dat (.bool x17.2)] ∧ s.t 12 = .v false [.dat (.int .i64 x82.2.2.2.2.2.2)] ∧ s.h 2 = (1, .box 53 [.old base (.sl (List.map M.Bucket.en p0.Buckets))]) ∧ s.h 3 = (1, .box 104 [.dat (.str p1.Site), .dat (.str p1.Top), .dat (.str p1.Registration.Site), .dat (.int .i64 p1.Registration.Installing), .dat (.int .i64 p1.Registration.Waiting), .dat (.int .i64 p1.Registration.Active), .old base (.sl (List.map M.Cache.en p1.Caches.Caches)), .dat (.str p1.Disk.Base.Name), .dat (.int .i64 p1.Disk.Base.Version), .old base (.sl (List.map M.Store.en p1.Disk.Base.Stores)), .old base (.sl (List.map M.IndexDef.en p1.Disk.Base.Unique)), .old base (.sl (List.map enB p1.Disk.Log)), .dat (.int .i64 p1.Disk.Count), .dat (.str p1.Replica.Base.Name), .old base (.sl (List.map M.Item.en p1.Replica.Base.Items)), .dat (.int .i64 p1.Replica.Base.Auto), .dat (.int .i64 p1.Replica.Seen), .dat (.int .i64 p1.Replica.Sync.Outbox.Device), .dat (.int .i64 p1.Replica.Sync.Outbox.Next), .old base (.sl (List.map M.Write.en p1.Replica.Sync.Outbox.Writes)), .dat (.int .i64 p1.Replica.Sync.Tries), .dat (.int .i64 p1.Replica.Sync.WaitUntil), .dat (.int .i64 p1.LastUsed), .dat (.bool p1.Persistent)]) ∧ s.h 6 = (1, .box 69 [.row 100032 1]) ∧ s.h 10 = (1, .box 69 [.row 100042 1]) ∧ s.h 100032 = (1, .row 45 24 (List.map M.Bucket.en x11.1.Buckets) true) ∧ s.h 100042 = (1, .row 45 24 (List.map M.Bucket.en x17.1.Buckets) true) ∧ True) ?_
  rintro s84 ⟨f85, f86, f87, f88, f89, f90, f91, f92, f93, f94, f95, f96, f97, _⟩
  rcases bcase (decide (x82.2.2.2.2.2.2 < 0)) with b98 | b98
  · replace h := ite_t b98 h
    refine ln ?_
    refine an (lct (sq (ln ?_)))
    refine an (rt ?_)
    cases h
    simp [Ret, TB, EN, *]
  replace h := ite_f b98 h
  obtain ⟨x99, h100, h⟩ := bind_some h
  rcases bcase (!x99) with b101 | b101
  · replace h := ite_t b101 h
    refine ln1 (c46 _ _ _ h100) ?_
    refine an (lct (sq (ln ?_)))
    refine an (rt ?_)
    cases h
    simp [Ret, TB, EN, *]
  replace h := ite_f b101 h
  refine ln1 (c46 _ _ _ h100) ?_
  refine an (lcf (sk (an (sq (ln ?_)))))
  refine an (sq ?_)
  obtain ⟨x102, h103, h⟩ := bind_some h
  refine SW_mark (n := 2) (x := 83) (y := 84) (d := 85) (ag := true) (cs := [.row 100042 1]) (k := 1) [2, 3, 6, 7, 10, 13] [2, 3, 6, 10, 100032, 100042] rfl rfl rfl rfl rfl (by decide) ?_ ?_ ?_ (c_laws_markStorage x17.1 1 x102 h103) ?_ (by simp +decide [mkIds]) ?_ ?_ ?_ ?_ (s1 := ?S135) (s3 := ?S136)
  rotate_left 2
  · simp +decide only [LX, E, reduceIte, Nat.reduceAdd, Nat.reduceMul, Int.reduceEq, Int.reduceLT, Bool.not_true, Bool.not_false, L, TB, EN, *, -h]
    exact Is.mk _
  · simp +decide only [LX, F, reduceIte, Nat.reduceAdd, Bool.not_true, Bool.not_false, EN, *, -h]
  · simp +decide only [LX, F, reduceIte, Nat.reduceAdd, Bool.not_true, Bool.not_false, EN, *, -h]
  · refine ⟨45, 24, List.map M.Bucket.en x17.1.Buckets, List.map M.Bucket.en x102.1, _, _, by simp +decide only [LX, F, reduceIte, Nat.reduceAdd, Bool.not_true, Bool.not_false, EN, *, -h], mapLen (f := M.Bucket.en) (fun _ => rfl) _, rfl, rfl, ?_⟩
    exact ⟨rfl, rfl⟩
  · simp +decide only [LC, LX, F, reduceIte, Nat.reduceAdd, Bool.not_true, Bool.not_false, EN, *, -h]
  · simp +decide only [LC, LX, F, reduceIte, Nat.reduceAdd, Bool.not_true, Bool.not_false, EN, *, -h]
  · simp +decide only [LX, E, reduceIte, Nat.reduceAdd, Nat.reduceMul, Int.reduceEq, Int.reduceLT, Bool.not_true, Bool.not_false, L, TB, EN, *, -h]
    exact Is.mk _
  refine an (sq ?_)
  refine lcu (fun s => s.t 2 = .v false [.bp 2 1 0] ∧ s.t 3 = .v false [.bp 3 1 0] ∧ s.t 6 = .v false [.bp 6 1 0] ∧ s.t 7 = .v false [.dat (.bool x11.2)] ∧ s.t 10 = .v false [.bp 10 1 0] ∧ s.t 13 = .v false [.dat (.int .i64 x102.2)] ∧ s.h 2 = (1, .box 53 [.old base (.sl (List.map M.Bucket.en p0.Buckets))]) ∧ s.h 3 = (1, .box 104 [.dat (.str p1.Site), .dat (.str p1.Top), .dat (.str p1.Registration.Site), .dat (.int .i64 p1.Registration.Installing), .dat (.int .i64 p1.Registration.Waiting), .dat (.int .i64 p1.Registration.Active), .old base (.sl (List.map M.Cache.en p1.Caches.Caches)), .dat (.str p1.Disk.Base.Name), .dat (.int .i64 p1.Disk.Base.Version), .old base (.sl (List.map M.Store.en p1.Disk.Base.Stores)), .old base (.sl (List.map M.IndexDef.en p1.Disk.Base.Unique)), .old base (.sl (List.map enB p1.Disk.Log)), .dat (.int .i64 p1.Disk.Count), .dat (.str p1.Replica.Base.Name), .old base (.sl (List.map M.Item.en p1.Replica.Base.Items)), .dat (.int .i64 p1.Replica.Base.Auto), .dat (.int .i64 p1.Replica.Seen), .dat (.int .i64 p1.Replica.Sync.Outbox.Device), .dat (.int .i64 p1.Replica.Sync.Outbox.Next), .old base (.sl (List.map M.Write.en p1.Replica.Sync.Outbox.Writes)), .dat (.int .i64 p1.Replica.Sync.Tries), .dat (.int .i64 p1.Replica.Sync.WaitUntil), .dat (.int .i64 p1.LastUsed), .dat (.bool p1.Persistent)]) ∧ s.h 6 = (1, .box 69 [.row 100032 1]) ∧ s.h 10 = (1, .box 69 [.row 100042 1]) ∧ s.h 100032 = (1, .row 45 24 (List.map M.Bucket.en x11.1.Buckets) true) ∧ s.h 100042 = (1, .row 45 24 (List.map M.Bucket.en x102.1) true) ∧ True) ?_
  rintro s104 ⟨f105, f106, f107, f108, f109, f110, f111, f112, f113, f114, f115, f116, _⟩
  refine ln ?_
  refine an (sq ?_)
  obtain ⟨x117, h118, h⟩ := bind_some h
  refine ln1 (c48 _ _ _ h118) ?_
  refine an (sq (sq (ln ?_)))
  refine an ?_
  rcases bcase (decide (x117 < 0)) with b119 | b119
  · replace h := ite_t b119 h
    refine lct (sq (ln ?_))
    refine an (rt ?_)
    cases h
    simp [Ret, TB, EN, *]
  replace h := ite_f b119 h
  refine lcf (sk (an (sq (sq (ln ?_)))))
  refine an ?_
  rcases bcase (x117 != x102.2) with b120 | b120
  · replace h := ite_t b120 h
    refine lct (sq (ln ?_))
    refine an (rt ?_)
    cases h
    simp [Ret, TB, EN, *]
  replace h := ite_f b120 h
  refine lcf (sk (an (sq ?_)))
  obtain ⟨x121, h122, h⟩ := bind_some h
  obtain ⟨x123, h124, h⟩ := bind_some h
  obtain ⟨x125, h126, h⟩ := bind_some h
  apply SW_runD mixed
  · simp +decide only [LX, E, reduceIte, Nat.reduceAdd, Nat.reduceMul, Bool.not_true, Bool.not_false, L, ti53, ti69, ti104, EN, b3, b6, b21, b22, b27, b32, b98, b101, f105, f106, f107, f108, f109, f110, f111, f112, f113, f114, f115, f116, b119, b120]
    refine ⟨_, c44 _ _ h122, ?_⟩
    try simp +decide only [LX, E, reduceIte, Nat.reduceAdd, Nat.reduceMul, Bool.not_true, Bool.not_false, L, ti53, ti69, ti104, EN, b3, b6, b21, b22, b27, b32, b98, b101, f105, f106, f107, f108, f109, f110, f111, f112, f113, f114, f115, f116, b119, b120]
    refine ⟨_, c23 _ _ h124, ?_⟩
    try simp +decide only [LX, E, reduceIte, Nat.reduceAdd, Nat.reduceMul, Bool.not_true, Bool.not_false, L, ti53, ti69, ti104, EN, b3, b6, b21, b22, b27, b32, b98, b101, f105, f106, f107, f108, f109, f110, f111, f112, f113, f114, f115, f116, b119, b120]
    refine ⟨_, c45 _ _ _ h126, ?_⟩
    try simp +decide only [LX, E, reduceIte, Nat.reduceAdd, Nat.reduceMul, Bool.not_true, Bool.not_false, L, ti53, ti69, ti104, EN, b3, b6, b21, b22, b27, b32, b98, b101, f105, f106, f107, f108, f109, f110, f111, f112, f113, f114, f115, f116, b119, b120]
    exact ⟨.mk (by decide +kernel), Is.mk _⟩
  refine an (sq (sq ?_))
  obtain ⟨x127, h128, h⟩ := bind_some h
  rcases bcase (!x127) with b129 | b129
  · replace h := ite_t b129 h
    refine ln1 (c46 _ _ _ h128) ?_
    refine an (lct (sq (ln ?_)))
    refine an (rt ?_)
    cases h
    simp [Ret, TB, EN, *]
  replace h := ite_f b129 h
  refine ln1 (c46 _ _ _ h128) ?_
  refine an ?_
  rcases bcase (!(x125.2 == x11.2)) with b130 | b130
  · replace h := ite_t b130 h
    refine lct (sq (ln ?_))
    refine an (rt ?_)
    cases h
    simp [Ret, TB, EN, *]
  replace h := ite_f b130 h
  refine lcf (sk (an (sq (ln ?_))))
  refine an (sq ?_)
  obtain ⟨x131, h132, h⟩ := bind_some h
  refine ln1 (c48 _ _ _ h132) ?_
  refine an (sq (sq (ln ?_)))
  refine an ?_
  rcases bcase (decide (x131 < 0)) with b133 | b133
  · replace h := ite_t b133 h
    refine lct (sq (ln ?_))
    refine an (rt ?_)
    cases h
    simp [Ret, TB, EN, *]
  replace h := ite_f b133 h
  refine lcf (sk (an (sq (sq (ln ?_)))))
  refine an ?_
  rcases bcase (x131 != x102.2) with b134 | b134
  · replace h := ite_t b134 h
    refine lct (sq (ln ?_))
    refine an (rt ?_)
    cases h
    simp [Ret, TB, EN, *]
  replace h := ite_f b134 h
  refine lcf (sk (an (sq (ln ?_))))
  refine an (rt ?_)
  cases h
  simp [Ret, TB, EN, *]

end Go.Proofs.YtgemmnkhddlhpaaGreat.gen
