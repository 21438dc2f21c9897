/-
  Helper text: walks: each function's contract out of its model. No conditions beyond those of each contract.
-/
import Derived.Test.YtmpbibngijnfeaaGreatUTi
import Derived.Test.YtmpbibngijnfeaaGreatUWeq
import Derived.Test.YtmpbibngijnfeaaGreatUWheld
import Derived.Test.YtmpbibngijnfeaaGreatUWimpl1
import Derived.Test.YtmpbibngijnfeaaGreatUWmark
import Derived.Test.YtmpbibngijnfeaaGreatUWspec1
import Derived.Test.YtmpbibngijnfeaaGreatUWsz
import Derived.Test.YtmpbibngijnfeaaGreatUWto
namespace Go.Proofs.YtmpbibngijnfeaaGreat.gen
open Go Go.Sh
set_option linter.unusedVariables false
set_option linter.unusedSimpArgs false
set_option maxRecDepth 20000
set_option maxHeartbeats 4000000
set_option maxRecDepth 20000 in
set_option maxHeartbeats 4000000 in
theorem c_laws_FnExactReplaceReplica (p0 : M.Bucket) (p1 : M.Replica) (r : Bool) (h : m_laws_FnExactReplaceReplica p0 p1 = some r) : SCalls Tryz.prog 4 [(true, M.Bucket.en p0), (true, M.Replica.en p1)] [(false, [.ro (.bool r)])] := by
  unfold m_laws_FnExactReplaceReplica at h
  simp only [M.Bucket.en, M.Replica.en]
  refine scallsL (N := 119) (vars := [.tmp 4]) Tryz.func4 rfl rfl rfl (by decide +kernel) (Nat.le_of_ble_eq_true rfl) fun base wd => ?_
  refine sq (ln ?_)
  refine an (sq (ln ?_))
  refine an (sq ?_)
  obtain ⟨x1, h2, h⟩ := bind_some h
  refine ln1 (c6 _ _ _ h2) ?_
  refine an (sq (sq (ln ?_)))
  refine an ?_
  rcases bcase (decide (x1 < 0)) with b3 | b3
  · replace h := ite_t b3 h
    refine lct (sq (ln ?_))
    refine an (rt ?_)
    cases h
    simp [Ret, TB, EN, *]
  replace h := ite_f b3 h
  refine lcf (sk (an (sq ?_)))
  obtain ⟨x4, h5, h⟩ := bind_some h
  refine ln1 (c17 _ _ _ h5) ?_
  refine an (sq (sq (ln ?_)))
  refine an ?_
  rcases bcase (decide (x4 < 0)) with b6 | b6
  · replace h := ite_t b6 h
    refine lct (sq (ln ?_))
    refine an (rt ?_)
    cases h
    simp [Ret, TB, EN, *]
  replace h := ite_f b6 h
  refine lcf (sk (an (sq ?_)))
  obtain ⟨x7, h8, h⟩ := bind_some h
  obtain ⟨x9, h10, h⟩ := bind_some h
  obtain ⟨x11, h12, h⟩ := bind_some h
  apply SW_runD mixed
  · simp +decide only [LX, E, reduceIte, Nat.reduceAdd, Nat.reduceMul, Bool.not_true, Bool.not_false, L, ti43, ti45, ti69, EN, b3, b6]
    refine ⟨_, c9 _ _ h8, ?_⟩
    try simp +decide only [LX, E, reduceIte, Nat.reduceAdd, Nat.reduceMul, Bool.not_true, Bool.not_false, L, ti43, ti45, ti69, EN, b3, b6]
    refine ⟨_, c19 _ _ h10, ?_⟩
    try simp +decide only [LX, E, reduceIte, Nat.reduceAdd, Nat.reduceMul, Bool.not_true, Bool.not_false, L, ti43, ti45, ti69, EN, b3, b6]
    refine ⟨_, c18 _ _ _ h12, ?_⟩
    try simp +decide only [LX, E, reduceIte, Nat.reduceAdd, Nat.reduceMul, Bool.not_true, Bool.not_false, L, ti43, ti45, ti69, EN, b3, b6]
    exact ⟨.mk (by decide +kernel), Is.mk _⟩
  refine an (sq ?_)
  obtain ⟨x13, h14, h⟩ := bind_some h
  refine ln1 (c9 _ _ h14) ?_
  refine an (sq ?_)
  obtain ⟨x15, h16, h⟩ := bind_some h
  refine ln1 (c19 _ _ h16) ?_
  refine an (sq ?_)
  obtain ⟨x17, h18, h⟩ := bind_some h
  refine ln1 (c20 _ _ _ h18) ?_
  refine an (sq (sq ?_))
  obtain ⟨x19, h20, h⟩ := bind_some h
  rcases bcase (!x19) with b21 | b21
  · replace h := ite_t b21 h
    refine ln1 (c12 _ _ _ h20) ?_
    refine an (lct (sq (ln ?_)))
    refine an (rt ?_)
    cases h
    simp [Ret, TB, EN, *]
  replace h := ite_f b21 h
  refine ln1 (c12 _ _ _ h20) ?_
  refine an ?_
  rcases bcase (!(x17.2 == x11.2)) with b22 | b22
  · replace h := ite_t b22 h
    refine lct (sq (ln ?_))
    refine an (rt ?_)
    cases h
    simp [Ret, TB, EN, *]
  replace h := ite_f b22 h
  refine lcf (sk (an (sq (sq ?_))))
  obtain ⟨x23, h24, h⟩ := bind_some h
  obtain ⟨x25, h26, h⟩ := bind_some h
  refine ld2 mixed (c9 _ _ h24) (c12 _ _ _ h26) ?_
  refine an ?_
  rcases bcase (!x25) with b27 | b27
  · replace h := ite_t b27 h
    refine lct (sq (ln ?_))
    refine an (rt ?_)
    cases h
    simp [Ret, TB, EN, *]
  replace h := ite_f b27 h
  refine lcf (sk (an (sq (sq ?_))))
  obtain ⟨x28, h29, h⟩ := bind_some h
  obtain ⟨x30, h31, h⟩ := bind_some h
  refine ld2 mixed (c19 _ _ h29) (c21 _ _ _ h31) ?_
  refine an ?_
  rcases bcase (!x30) with b32 | b32
  · replace h := ite_t b32 h
    refine lct (sq (ln ?_))
    refine an (rt ?_)
    cases h
    simp [Ret, TB, EN, *]
  replace h := ite_f b32 h
  refine lcf (sk (an (sq (ln ?_))))
  refine an (sq ?_)
  refine lcu (fun s => s.t 2 = .v false [.bp 2 1 0] ∧ s.t 3 = .v false [.bp 3 1 0] ∧ s.t 6 = .v false [.bp 6 1 0] ∧ s.t 7 = .v false [.dat (.bool x11.2)] ∧ s.t 8 = .v false [.bp 8 1 0] ∧ s.t 9 = .v false [.bp 9 1 0] ∧ s.t 10 = .v false [.bp 10 1 0] ∧ s.t 11 = .v false [.dat (.bool x17.2)] ∧ s.t 12 = .v false [.dat (.int .i64 1)] ∧ s.h 2 = (1, .box 45 [.dat (.str p0.Site), .dat (.str p0.Top), .dat (.str p0.Registration.Site), .dat (.int .i64 p0.Registration.Installing), .dat (.int .i64 p0.Registration.Waiting), .dat (.int .i64 p0.Registration.Active), .old base (.sl (List.map M.Cache.en p0.Caches.Caches)) none, .dat (.str p0.Disk.Base.Name), .dat (.int .i64 p0.Disk.Base.Version), .old base (.sl (List.map M.Store.en p0.Disk.Base.Stores)) none, .old base (.sl (List.map M.IndexDef.en p0.Disk.Base.Unique)) none, .old base (.sl (List.map enB p0.Disk.Log)) none, .dat (.int .i64 p0.Disk.Count), .dat (.str p0.Replica.Base.Name), .old base (.sl (List.map M.Item.en p0.Replica.Base.Items)) none, .dat (.int .i64 p0.Replica.Base.Auto), .dat (.int .i64 p0.Replica.Seen), .dat (.int .i64 p0.Replica.Sync.Outbox.Device), .dat (.int .i64 p0.Replica.Sync.Outbox.Next), .old base (.sl (List.map M.Write.en p0.Replica.Sync.Outbox.Writes)) none, .dat (.int .i64 p0.Replica.Sync.Tries), .dat (.int .i64 p0.Replica.Sync.WaitUntil), .dat (.int .i64 p0.LastUsed), .dat (.bool p0.Persistent)]) ∧ s.h 3 = (1, .box 43 [.dat (.str p1.Base.Name), .old base (.sl (List.map M.Item.en p1.Base.Items)) none, .dat (.int .i64 p1.Base.Auto), .dat (.int .i64 p1.Seen), .dat (.int .i64 p1.Sync.Outbox.Device), .dat (.int .i64 p1.Sync.Outbox.Next), .old base (.sl (List.map M.Write.en p1.Sync.Outbox.Writes)) none, .dat (.int .i64 p1.Sync.Tries), .dat (.int .i64 p1.Sync.WaitUntil)]) ∧ s.h 6 = (1, .box 69 [.dat (.str x11.1.Site), .dat (.str x11.1.Top), .dat (.str x11.1.Registration.Site), .dat (.int .i64 x11.1.Registration.Installing), .dat (.int .i64 x11.1.Registration.Waiting), .dat (.int .i64 x11.1.Registration.Active), .row 700032 1, .dat (.str x11.1.Disk.Base.Name), .dat (.int .i64 x11.1.Disk.Base.Version), .row 1000032 1, .row 1100032 1, .row 1200032 1, .dat (.int .i64 x11.1.Disk.Count), .dat (.str x11.1.Replica.Base.Name), .row 1500032 1, .dat (.int .i64 x11.1.Replica.Base.Auto), .dat (.int .i64 x11.1.Replica.Seen), .dat (.int .i64 x11.1.Replica.Sync.Outbox.Device), .dat (.int .i64 x11.1.Replica.Sync.Outbox.Next), .row 2000032 1, .dat (.int .i64 x11.1.Replica.Sync.Tries), .dat (.int .i64 x11.1.Replica.Sync.WaitUntil), .dat (.int .i64 x11.1.LastUsed), .dat (.bool x11.1.Persistent)]) ∧ s.h 8 = (1, .box 69 [.dat (.str x13.Site), .dat (.str x13.Top), .dat (.str x13.Registration.Site), .dat (.int .i64 x13.Registration.Installing), .dat (.int .i64 x13.Registration.Waiting), .dat (.int .i64 x13.Registration.Active), .row 700036 1, .dat (.str x13.Disk.Base.Name), .dat (.int .i64 x13.Disk.Base.Version), .row 1000036 1, .row 1100036 1, .row 1200036 1, .dat (.int .i64 x13.Disk.Count), .dat (.str x13.Replica.Base.Name), .row 1500036 1, .dat (.int .i64 x13.Replica.Base.Auto), .dat (.int .i64 x13.Replica.Seen), .dat (.int .i64 x13.Replica.Sync.Outbox.Device), .dat (.int .i64 x13.Replica.Sync.Outbox.Next), .row 2000036 1, .dat (.int .i64 x13.Replica.Sync.Tries), .dat (.int .i64 x13.Replica.Sync.WaitUntil), .dat (.int .i64 x13.LastUsed), .dat (.bool x13.Persistent)]) ∧ s.h 9 = (1, .box 67 [.dat (.str x15.Base.Name), .row 200038 1, .dat (.int .i64 x15.Base.Auto), .dat (.int .i64 x15.Seen), .dat (.int .i64 x15.Sync.Outbox.Device), .dat (.int .i64 x15.Sync.Outbox.Next), .row 700038 1, .dat (.int .i64 x15.Sync.Tries), .dat (.int .i64 x15.Sync.WaitUntil)]) ∧ s.h 10 = (1, .box 69 [.dat (.str x17.1.Site), .dat (.str x17.1.Top), .dat (.str x17.1.Registration.Site), .dat (.int .i64 x17.1.Registration.Installing), .dat (.int .i64 x17.1.Registration.Waiting), .dat (.int .i64 x17.1.Registration.Active), .row 700042 1, .dat (.str x17.1.Disk.Base.Name), .dat (.int .i64 x17.1.Disk.Base.Version), .row 1000042 1, .row 1100042 1, .row 1200042 1, .dat (.int .i64 x17.1.Disk.Count), .dat (.str x17.1.Replica.Base.Name), .row 1500042 1, .dat (.int .i64 x17.1.Replica.Base.Auto), .dat (.int .i64 x17.1.Replica.Seen), .dat (.int .i64 x17.1.Replica.Sync.Outbox.Device), .dat (.int .i64 x17.1.Replica.Sync.Outbox.Next), .row 2000042 1, .dat (.int .i64 x17.1.Replica.Sync.Tries), .dat (.int .i64 x17.1.Replica.Sync.WaitUntil), .dat (.int .i64 x17.1.LastUsed), .dat (.bool x17.1.Persistent)]) ∧ s.h 200038 = (1, .row 177 4 (List.map M.Item.en x15.Base.Items) true) ∧ s.h 700032 = (1, .row 144 2 (List.map M.Cache.en x11.1.Caches.Caches) true) ∧ s.h 700036 = (1, .row 144 2 (List.map M.Cache.en x13.Caches.Caches) true) ∧ s.h 700038 = (1, .row 217 7 (List.map M.Write.en x15.Sync.Outbox.Writes) true) ∧ s.h 700042 = (1, .row 144 2 (List.map M.Cache.en x17.1.Caches.Caches) true) ∧ s.h 1000032 = (1, .row 60 3 (List.map M.Store.en x11.1.Disk.Base.Stores) true) ∧ s.h 1000036 = (1, .row 60 3 (List.map M.Store.en x13.Disk.Base.Stores) true) ∧ s.h 1000042 = (1, .row 60 3 (List.map M.Store.en x17.1.Disk.Base.Stores) true) ∧ s.h 1100032 = (1, .row 159 2 (List.map M.IndexDef.en x11.1.Disk.Base.Unique) true) ∧ s.h 1100036 = (1, .row 159 2 (List.map M.IndexDef.en x13.Disk.Base.Unique) true) ∧ s.h 1100042 = (1, .row 159 2 (List.map M.IndexDef.en x17.1.Disk.Base.Unique) true) ∧ s.h 1200032 = (1, .row 5 1 (List.map enB x11.1.Disk.Log) true) ∧ s.h 1200036 = (1, .row 5 1 (List.map enB x13.Disk.Log) true) ∧ s.h 1200042 = (1, .row 5 1 (List.map enB x17.1.Disk.Log) true) ∧ s.h 1500032 = (1, .row 177 4 (List.map M.Item.en x11.1.Replica.Base.Items) true) ∧ s.h 1500036 = (1, .row 177 4 (List.map M.Item.en x13.Replica.Base.Items) true) ∧ s.h 1500042 = (1, .row 177 4 (List.map M.Item.en x17.1.Replica.Base.Items) true) ∧ s.h 2000032 = (1, .row 217 7 (List.map M.Write.en x11.1.Replica.Sync.Outbox.Writes) true) ∧ s.h 2000036 = (1, .row 217 7 (List.map M.Write.en x13.Replica.Sync.Outbox.Writes) true) ∧ s.h 2000042 = (1, .row 217 7 (List.map M.Write.en x17.1.Replica.Sync.Outbox.Writes) true) ∧ True) ?_
  rintro s33 ⟨f34, f35, f36, f37, f38, f39, f40, f41, f42, f43, f44, f45, f46, f47, f48, f49, f50, f51, f52, f53, f54, f55, f56, f57, f58, f59, f60, f61, f62, f63, f64, f65, f66, f67, f68, _⟩
  obtain ⟨x69, h70, h⟩ := bind_some h
  refine SW_mark (n := 2) (x := 64) (y := 65) (d := 66) (ag := true) (cs := [.dat (.str x13.Site), .dat (.str x13.Top), .dat (.str x13.Registration.Site), .dat (.int .i64 x13.Registration.Installing), .dat (.int .i64 x13.Registration.Waiting), .dat (.int .i64 x13.Registration.Active), .row 700036 1, .dat (.str x13.Disk.Base.Name), .dat (.int .i64 x13.Disk.Base.Version), .row 1000036 1, .row 1100036 1, .row 1200036 1, .dat (.int .i64 x13.Disk.Count), .dat (.str x13.Replica.Base.Name), .row 1500036 1, .dat (.int .i64 x13.Replica.Base.Auto), .dat (.int .i64 x13.Replica.Seen), .dat (.int .i64 x13.Replica.Sync.Outbox.Device), .dat (.int .i64 x13.Replica.Sync.Outbox.Next), .row 2000036 1, .dat (.int .i64 x13.Replica.Sync.Tries), .dat (.int .i64 x13.Replica.Sync.WaitUntil), .dat (.int .i64 x13.LastUsed), .dat (.bool x13.Persistent)]) (k := 1) [2, 3, 6, 7, 9, 10, 11, 12] [2, 3, 6, 9, 10, 200038, 700032, 700038, 700042, 1000032, 1000042, 1100032, 1100042, 1200032, 1200042, 1500032, 1500042, 2000032, 2000042] rfl rfl rfl rfl rfl (by decide) ?_ ?_ ?_ (c_laws_markBucket x13 1 x69 h70) ?_ (by simp +decide [mkIds]) ?_ ?_ ?_ ?_ (s1 := ?S176) (s3 := ?S177)
  rotate_left 2
  · simp +decide only [LX, E, reduceIte, Nat.reduceAdd, Nat.reduceMul, Int.reduceEq, Int.reduceLT, Bool.not_true, Bool.not_false, L, TB, EN, *, -h]
    exact Is.mk _
  · simp +decide only [LX, F, reduceIte, Nat.reduceAdd, Bool.not_true, Bool.not_false, EN, *, -h]
  · simp +decide only [LX, F, reduceIte, Nat.reduceAdd, Bool.not_true, Bool.not_false, EN, *, -h]
  · refine ⟨_, _, rfl, rfl, rfl, ?_⟩
    refine ⟨_, _, rfl, rfl, rfl, ?_⟩
    refine ⟨_, _, rfl, rfl, rfl, ?_⟩
    refine ⟨_, _, rfl, rfl, rfl, ?_⟩
    refine ⟨_, _, rfl, rfl, rfl, ?_⟩
    refine ⟨_, _, rfl, rfl, rfl, ?_⟩
    refine ⟨144, 2, List.map M.Cache.en x13.Caches.Caches, List.map M.Cache.en x69.1, _, _, by simp +decide only [LX, F, reduceIte, Nat.reduceAdd, Bool.not_true, Bool.not_false, EN, *, -h], mapLen (f := M.Cache.en) (fun _ => rfl) _, rfl, rfl, ?_⟩
    refine ⟨_, _, rfl, rfl, rfl, ?_⟩
    refine ⟨_, _, rfl, rfl, rfl, ?_⟩
    refine ⟨60, 3, List.map M.Store.en x13.Disk.Base.Stores, List.map M.Store.en x69.2.1, _, _, by simp +decide only [LX, F, reduceIte, Nat.reduceAdd, Bool.not_true, Bool.not_false, EN, *, -h], mapLen (f := M.Store.en) (fun _ => rfl) _, rfl, rfl, ?_⟩
    refine ⟨159, 2, List.map M.IndexDef.en x13.Disk.Base.Unique, List.map M.IndexDef.en x69.2.2.1, _, _, by simp +decide only [LX, F, reduceIte, Nat.reduceAdd, Bool.not_true, Bool.not_false, EN, *, -h], mapLen (f := M.IndexDef.en) (fun _ => rfl) _, rfl, rfl, ?_⟩
    refine ⟨5, 1, List.map enB x13.Disk.Log, List.map enB x69.2.2.2.1, _, _, by simp +decide only [LX, F, reduceIte, Nat.reduceAdd, Bool.not_true, Bool.not_false, EN, *, -h], mapLen (f := enB) (fun _ => rfl) _, rfl, rfl, ?_⟩
    refine ⟨_, _, rfl, rfl, rfl, ?_⟩
    refine ⟨_, _, rfl, rfl, rfl, ?_⟩
    refine ⟨177, 4, List.map M.Item.en x13.Replica.Base.Items, List.map M.Item.en x69.2.2.2.2.1, _, _, by simp +decide only [LX, F, reduceIte, Nat.reduceAdd, Bool.not_true, Bool.not_false, EN, *, -h], mapLen (f := M.Item.en) (fun _ => rfl) _, rfl, rfl, ?_⟩
    refine ⟨_, _, rfl, rfl, rfl, ?_⟩
    refine ⟨_, _, rfl, rfl, rfl, ?_⟩
    refine ⟨_, _, rfl, rfl, rfl, ?_⟩
    refine ⟨_, _, rfl, rfl, rfl, ?_⟩
    refine ⟨217, 7, List.map M.Write.en x13.Replica.Sync.Outbox.Writes, List.map M.Write.en x69.2.2.2.2.2.1, _, _, by simp +decide only [LX, F, reduceIte, Nat.reduceAdd, Bool.not_true, Bool.not_false, EN, *, -h], mapLen (f := M.Write.en) (fun _ => rfl) _, rfl, rfl, ?_⟩
    refine ⟨_, _, rfl, rfl, rfl, ?_⟩
    refine ⟨_, _, rfl, rfl, rfl, ?_⟩
    refine ⟨_, _, rfl, rfl, rfl, ?_⟩
    refine ⟨_, _, rfl, rfl, rfl, ?_⟩
    exact ⟨rfl, rfl⟩
  · simp +decide only [LC, LX, F, reduceIte, Nat.reduceAdd, Bool.not_true, Bool.not_false, EN, *, -h]
  · simp +decide only [LC, LX, F, reduceIte, Nat.reduceAdd, Bool.not_true, Bool.not_false, EN, *, -h]
  · simp +decide only [LX, E, reduceIte, Nat.reduceAdd, Nat.reduceMul, Int.reduceEq, Int.reduceLT, Bool.not_true, Bool.not_false, L, TB, EN, *, -h]
    exact Is.mk _
  refine an (sq ?_)
  refine lcu (fun s => s.t 2 = .v false [.bp 2 1 0] ∧ s.t 3 = .v false [.bp 3 1 0] ∧ s.t 6 = .v false [.bp 6 1 0] ∧ s.t 7 = .v false [.dat (.bool x11.2)] ∧ s.t 9 = .v false [.bp 9 1 0] ∧ s.t 10 = .v false [.bp 10 1 0] ∧ s.t 11 = .v false [.dat (.bool x17.2)] ∧ s.t 12 = .v false [.dat (.int .i64 x69.2.2.2.2.2.2)] ∧ s.h 2 = (1, .box 45 [.dat (.str p0.Site), .dat (.str p0.Top), .dat (.str p0.Registration.Site), .dat (.int .i64 p0.Registration.Installing), .dat (.int .i64 p0.Registration.Waiting), .dat (.int .i64 p0.Registration.Active), .old base (.sl (List.map M.Cache.en p0.Caches.Caches)) none, .dat (.str p0.Disk.Base.Name), .dat (.int .i64 p0.Disk.Base.Version), .old base (.sl (List.map M.Store.en p0.Disk.Base.Stores)) none, .old base (.sl (List.map M.IndexDef.en p0.Disk.Base.Unique)) none, .old base (.sl (List.map enB p0.Disk.Log)) none, .dat (.int .i64 p0.Disk.Count), .dat (.str p0.Replica.Base.Name), .old base (.sl (List.map M.Item.en p0.Replica.Base.Items)) none, .dat (.int .i64 p0.Replica.Base.Auto), .dat (.int .i64 p0.Replica.Seen), .dat (.int .i64 p0.Replica.Sync.Outbox.Device), .dat (.int .i64 p0.Replica.Sync.Outbox.Next), .old base (.sl (List.map M.Write.en p0.Replica.Sync.Outbox.Writes)) none, .dat (.int .i64 p0.Replica.Sync.Tries), .dat (.int .i64 p0.Replica.Sync.WaitUntil), .dat (.int .i64 p0.LastUsed), .dat (.bool p0.Persistent)]) ∧ s.h 3 = (1, .box 43 [.dat (.str p1.Base.Name), .old base (.sl (List.map M.Item.en p1.Base.Items)) none, .dat (.int .i64 p1.Base.Auto), .dat (.int .i64 p1.Seen), .dat (.int .i64 p1.Sync.Outbox.Device), .dat (.int .i64 p1.Sync.Outbox.Next), .old base (.sl (List.map M.Write.en p1.Sync.Outbox.Writes)) none, .dat (.int .i64 p1.Sync.Tries), .dat (.int .i64 p1.Sync.WaitUntil)]) ∧ s.h 6 = (1, .box 69 [.dat (.str x11.1.Site), .dat (.str x11.1.Top), .dat (.str x11.1.Registration.Site), .dat (.int .i64 x11.1.Registration.Installing), .dat (.int .i64 x11.1.Registration.Waiting), .dat (.int .i64 x11.1.Registration.Active), .row 700032 1, .dat (.str x11.1.Disk.Base.Name), .dat (.int .i64 x11.1.Disk.Base.Version), .row 1000032 1, .row 1100032 1, .row 1200032 1, .dat (.int .i64 x11.1.Disk.Count), .dat (.str x11.1.Replica.Base.Name), .row 1500032 1, .dat (.int .i64 x11.1.Replica.Base.Auto), .dat (.int .i64 x11.1.Replica.Seen), .dat (.int .i64 x11.1.Replica.Sync.Outbox.Device), .dat (.int .i64 x11.1.Replica.Sync.Outbox.Next), .row 2000032 1, .dat (.int .i64 x11.1.Replica.Sync.Tries), .dat (.int .i64 x11.1.Replica.Sync.WaitUntil), .dat (.int .i64 x11.1.LastUsed), .dat (.bool x11.1.Persistent)]) ∧ s.h 9 = (1, .box 67 [.dat (.str x15.Base.Name), .row 200038 1, .dat (.int .i64 x15.Base.Auto), .dat (.int .i64 x15.Seen), .dat (.int .i64 x15.Sync.Outbox.Device), .dat (.int .i64 x15.Sync.Outbox.Next), .row 700038 1, .dat (.int .i64 x15.Sync.Tries), .dat (.int .i64 x15.Sync.WaitUntil)]) ∧ s.h 10 = (1, .box 69 [.dat (.str x17.1.Site), .dat (.str x17.1.Top), .dat (.str x17.1.Registration.Site), .dat (.int .i64 x17.1.Registration.Installing), .dat (.int .i64 x17.1.Registration.Waiting), .dat (.int .i64 x17.1.Registration.Active), .row 700042 1, .dat (.str x17.1.Disk.Base.Name), .dat (.int .i64 x17.1.Disk.Base.Version), .row 1000042 1, .row 1100042 1, .row 1200042 1, .dat (.int .i64 x17.1.Disk.Count), .dat (.str x17.1.Replica.Base.Name), .row 1500042 1, .dat (.int .i64 x17.1.Replica.Base.Auto), .dat (.int .i64 x17.1.Replica.Seen), .dat (.int .i64 x17.1.Replica.Sync.Outbox.Device), .dat (.int .i64 x17.1.Replica.Sync.Outbox.Next), .row 2000042 1, .dat (.int .i64 x17.1.Replica.Sync.Tries), .dat (.int .i64 x17.1.Replica.Sync.WaitUntil), .dat (.int .i64 x17.1.LastUsed), .dat (.bool x17.1.Persistent)]) ∧ s.h 200038 = (1, .row 177 4 (List.map M.Item.en x15.Base.Items) true) ∧ s.h 700032 = (1, .row 144 2 (List.map M.Cache.en x11.1.Caches.Caches) true) ∧ s.h 700038 = (1, .row 217 7 (List.map M.Write.en x15.Sync.Outbox.Writes) true) ∧ s.h 700042 = (1, .row 144 2 (List.map M.Cache.en x17.1.Caches.Caches) true) ∧ s.h 1000032 = (1, .row 60 3 (List.map M.Store.en x11.1.Disk.Base.Stores) true) ∧ s.h 1000042 = (1, .row 60 3 (List.map M.Store.en x17.1.Disk.Base.Stores) true) ∧ s.h 1100032 = (1, .row 159 2 (List.map M.IndexDef.en x11.1.Disk.Base.Unique) true) ∧ s.h 1100042 = (1, .row 159 2 (List.map M.IndexDef.en x17.1.Disk.Base.Unique) true) ∧ s.h 1200032 = (1, .row 5 1 (List.map enB x11.1.Disk.Log) true) ∧ s.h 1200042 = (1, .row 5 1 (List.map enB x17.1.Disk.Log) true) ∧ s.h 1500032 = (1, .row 177 4 (List.map M.Item.en x11.1.Replica.Base.Items) true) ∧ s.h 1500042 = (1, .row 177 4 (List.map M.Item.en x17.1.Replica.Base.Items) true) ∧ s.h 2000032 = (1, .row 217 7 (List.map M.Write.en x11.1.Replica.Sync.Outbox.Writes) true) ∧ s.h 2000042 = (1, .row 217 7 (List.map M.Write.en x17.1.Replica.Sync.Outbox.Writes) true) ∧ True) ?_
  rintro s71 ⟨f72, f73, f74, f75, f76, f77, f78, f79, f80, f81, f82, f83, f84, f85, f86, f87, f88, f89, f90, f91, f92, f93, f94, f95, f96, f97, f98, _⟩
  obtain ⟨x99, h100, h⟩ := bind_some h
  refine SW_mark (n := 2) (x := 67) (y := 68) (d := 69) (ag := true) (cs := [.dat (.str x15.Base.Name), .row 200038 1, .dat (.int .i64 x15.Base.Auto), .dat (.int .i64 x15.Seen), .dat (.int .i64 x15.Sync.Outbox.Device), .dat (.int .i64 x15.Sync.Outbox.Next), .row 700038 1, .dat (.int .i64 x15.Sync.Tries), .dat (.int .i64 x15.Sync.WaitUntil)]) (k := x69.2.2.2.2.2.2) [2, 3, 6, 7, 10, 11, 12] [2, 3, 6, 10, 700032, 700042, 1000032, 1000042, 1100032, 1100042, 1200032, 1200042, 1500032, 1500042, 2000032, 2000042] rfl rfl rfl rfl rfl (by decide) ?_ ?_ ?_ (c_laws_markReplica x15 x69.2.2.2.2.2.2 x99 h100) ?_ (by simp +decide [mkIds]) ?_ ?_ ?_ ?_ (s1 := ?S174) (s3 := ?S175)
  rotate_left 2
  · simp +decide only [LX, E, reduceIte, Nat.reduceAdd, Nat.reduceMul, Int.reduceEq, Int.reduceLT, Bool.not_true, Bool.not_false, L, TB, EN, *, -h]
    exact Is.mk _
  · simp +decide only [LX, F, reduceIte, Nat.reduceAdd, Bool.not_true, Bool.not_false, EN, *, -h]
  · simp +decide only [LX, F, reduceIte, Nat.reduceAdd, Bool.not_true, Bool.not_false, EN, *, -h]
  · refine ⟨_, _, rfl, rfl, rfl, ?_⟩
    refine ⟨177, 4, List.map M.Item.en x15.Base.Items, List.map M.Item.en x99.1, _, _, by simp +decide only [LX, F, reduceIte, Nat.reduceAdd, Bool.not_true, Bool.not_false, EN, *, -h], mapLen (f := M.Item.en) (fun _ => rfl) _, rfl, rfl, ?_⟩
    refine ⟨_, _, rfl, rfl, rfl, ?_⟩
    refine ⟨_, _, rfl, rfl, rfl, ?_⟩
    refine ⟨_, _, rfl, rfl, rfl, ?_⟩
    refine ⟨_, _, rfl, rfl, rfl, ?_⟩
    refine ⟨217, 7, List.map M.Write.en x15.Sync.Outbox.Writes, List.map M.Write.en x99.2.1, _, _, by simp +decide only [LX, F, reduceIte, Nat.reduceAdd, Bool.not_true, Bool.not_false, EN, *, -h], mapLen (f := M.Write.en) (fun _ => rfl) _, rfl, rfl, ?_⟩
    refine ⟨_, _, rfl, rfl, rfl, ?_⟩
    refine ⟨_, _, rfl, rfl, rfl, ?_⟩
    exact ⟨rfl, rfl⟩
  · simp +decide only [LC, LX, F, reduceIte, Nat.reduceAdd, Bool.not_true, Bool.not_false, EN, *, -h]
  · simp +decide only [LC, LX, F, reduceIte, Nat.reduceAdd, Bool.not_true, Bool.not_false, EN, *, -h]
  · simp +decide only [LX, E, reduceIte, Nat.reduceAdd, Nat.reduceMul, Int.reduceEq, Int.reduceLT, Bool.not_true, Bool.not_false, L, TB, EN, *, -h]
    exact Is.mk _
  refine an (sq (sq ?_))
  refine lcu (fun s => s.t 2 = .v false [.bp 2 1 0] ∧ s.t 3 = .v false [.bp 3 1 0] ∧ s.t 6 = .v false [.bp 6 1 0] ∧ s.t 7 = .v false [.dat (.bool x11.2)] ∧ s.t 10 = .v false [.bp 10 1 0] ∧ s.t 11 = .v false [.dat (.bool x17.2)] ∧ s.t 12 = .v false [.dat (.int .i64 x99.2.2)] ∧ s.h 2 = (1, .box 45 [.dat (.str p0.Site), .dat (.str p0.Top), .dat (.str p0.Registration.Site), .dat (.int .i64 p0.Registration.Installing), .dat (.int .i64 p0.Registration.Waiting), .dat (.int .i64 p0.Registration.Active), .old base (.sl (List.map M.Cache.en p0.Caches.Caches)) none, .dat (.str p0.Disk.Base.Name), .dat (.int .i64 p0.Disk.Base.Version), .old base (.sl (List.map M.Store.en p0.Disk.Base.Stores)) none, .old base (.sl (List.map M.IndexDef.en p0.Disk.Base.Unique)) none, .old base (.sl (List.map enB p0.Disk.Log)) none, .dat (.int .i64 p0.Disk.Count), .dat (.str p0.Replica.Base.Name), .old base (.sl (List.map M.Item.en p0.Replica.Base.Items)) none, .dat (.int .i64 p0.Replica.Base.Auto), .dat (.int .i64 p0.Replica.Seen), .dat (.int .i64 p0.Replica.Sync.Outbox.Device), .dat (.int .i64 p0.Replica.Sync.Outbox.Next), .old base (.sl (List.map M.Write.en p0.Replica.Sync.Outbox.Writes)) none, .dat (.int .i64 p0.Replica.Sync.Tries), .dat (.int .i64 p0.Replica.Sync.WaitUntil), .dat (.int .i64 p0.LastUsed), .dat (.bool p0.Persistent)]) ∧ s.h 3 = (1, .box 43 [.dat (.str p1.Base.Name), .old base (.sl (List.map M.Item.en p1.Base.Items)) none, .dat (.int .i64 p1.Base.Auto), .dat (.int .i64 p1.Seen), .dat (.int .i64 p1.Sync.Outbox.Device), .dat (.int .i64 p1.Sync.Outbox.Next), .old base (.sl (List.map M.Write.en p1.Sync.Outbox.Writes)) none, .dat (.int .i64 p1.Sync.Tries), .dat (.int .i64 p1.Sync.WaitUntil)]) ∧ s.h 6 = (1, .box 69 [.dat (.str x11.1.Site), .dat (.str x11.1.Top), .dat (.str x11.1.Registration.Site), .dat (.int .i64 x11.1.Registration.Installing), .dat (.int .i64 x11.1.Registration.Waiting), .dat (.int .i64 x11.1.Registration.Active), .row 700032 1, .dat (.str x11.1.Disk.Base.Name), .dat (.int .i64 x11.1.Disk.Base.Version), .row 1000032 1, .row 1100032 1, .row 1200032 1, .dat (.int .i64 x11.1.Disk.Count), .dat (.str x11.1.Replica.Base.Name), .row 1500032 1, .dat (.int .i64 x11.1.Replica.Base.Auto), .dat (.int .i64 x11.1.Replica.Seen), .dat (.int .i64 x11.1.Replica.Sync.Outbox.Device), .dat (.int .i64 x11.1.Replica.Sync.Outbox.Next), .row 2000032 1, .dat (.int .i64 x11.1.Replica.Sync.Tries), .dat (.int .i64 x11.1.Replica.Sync.WaitUntil), .dat (.int .i64 x11.1.LastUsed), .dat (.bool x11.1.Persistent)]) ∧ s.h 10 = (1, .box 69 [.dat (.str x17.1.Site), .dat (.str x17.1.Top), .dat (.str x17.1.Registration.Site), .dat (.int .i64 x17.1.Registration.Installing), .dat (.int .i64 x17.1.Registration.Waiting), .dat (.int .i64 x17.1.Registration.Active), .row 700042 1, .dat (.str x17.1.Disk.Base.Name), .dat (.int .i64 x17.1.Disk.Base.Version), .row 1000042 1, .row 1100042 1, .row 1200042 1, .dat (.int .i64 x17.1.Disk.Count), .dat (.str x17.1.Replica.Base.Name), .row 1500042 1, .dat (.int .i64 x17.1.Replica.Base.Auto), .dat (.int .i64 x17.1.Replica.Seen), .dat (.int .i64 x17.1.Replica.Sync.Outbox.Device), .dat (.int .i64 x17.1.Replica.Sync.Outbox.Next), .row 2000042 1, .dat (.int .i64 x17.1.Replica.Sync.Tries), .dat (.int .i64 x17.1.Replica.Sync.WaitUntil), .dat (.int .i64 x17.1.LastUsed), .dat (.bool x17.1.Persistent)]) ∧ s.h 700032 = (1, .row 144 2 (List.map M.Cache.en x11.1.Caches.Caches) true) ∧ s.h 700042 = (1, .row 144 2 (List.map M.Cache.en x17.1.Caches.Caches) true) ∧ s.h 1000032 = (1, .row 60 3 (List.map M.Store.en x11.1.Disk.Base.Stores) true) ∧ s.h 1000042 = (1, .row 60 3 (List.map M.Store.en x17.1.Disk.Base.Stores) true) ∧ s.h 1100032 = (1, .row 159 2 (List.map M.IndexDef.en x11.1.Disk.Base.Unique) true) ∧ s.h 1100042 = (1, .row 159 2 (List.map M.IndexDef.en x17.1.Disk.Base.Unique) true) ∧ s.h 1200032 = (1, .row 5 1 (List.map enB x11.1.Disk.Log) true) ∧ s.h 1200042 = (1, .row 5 1 (List.map enB x17.1.Disk.Log) true) ∧ s.h 1500032 = (1, .row 177 4 (List.map M.Item.en x11.1.Replica.Base.Items) true) ∧ s.h 1500042 = (1, .row 177 4 (List.map M.Item.en x17.1.Replica.Base.Items) true) ∧ s.h 2000032 = (1, .row 217 7 (List.map M.Write.en x11.1.Replica.Sync.Outbox.Writes) true) ∧ s.h 2000042 = (1, .row 217 7 (List.map M.Write.en x17.1.Replica.Sync.Outbox.Writes) true) ∧ True) ?_
  rintro s101 ⟨f102, f103, f104, f105, f106, f107, f108, f109, f110, f111, f112, f113, f114, f115, f116, f117, f118, f119, f120, f121, f122, f123, f124, _⟩
  rcases bcase (decide (x99.2.2 < 0)) with b125 | b125
  · replace h := ite_t b125 h
    refine ln ?_
    refine an (lct (sq (ln ?_)))
    refine an (rt ?_)
    cases h
    simp [Ret, TB, EN, *]
  replace h := ite_f b125 h
  obtain ⟨x126, h127, h⟩ := bind_some h
  rcases bcase (!x126) with b128 | b128
  · replace h := ite_t b128 h
    refine ln1 (c12 _ _ _ h127) ?_
    refine an (lct (sq (ln ?_)))
    refine an (rt ?_)
    cases h
    simp [Ret, TB, EN, *]
  replace h := ite_f b128 h
  refine ln1 (c12 _ _ _ h127) ?_
  refine an (lcf (sk (an (sq (ln ?_)))))
  refine an (sq ?_)
  obtain ⟨x129, h130, h⟩ := bind_some h
  refine SW_mark (n := 2) (x := 83) (y := 84) (d := 85) (ag := true) (cs := [.dat (.str x17.1.Site), .dat (.str x17.1.Top), .dat (.str x17.1.Registration.Site), .dat (.int .i64 x17.1.Registration.Installing), .dat (.int .i64 x17.1.Registration.Waiting), .dat (.int .i64 x17.1.Registration.Active), .row 700042 1, .dat (.str x17.1.Disk.Base.Name), .dat (.int .i64 x17.1.Disk.Base.Version), .row 1000042 1, .row 1100042 1, .row 1200042 1, .dat (.int .i64 x17.1.Disk.Count), .dat (.str x17.1.Replica.Base.Name), .row 1500042 1, .dat (.int .i64 x17.1.Replica.Base.Auto), .dat (.int .i64 x17.1.Replica.Seen), .dat (.int .i64 x17.1.Replica.Sync.Outbox.Device), .dat (.int .i64 x17.1.Replica.Sync.Outbox.Next), .row 2000042 1, .dat (.int .i64 x17.1.Replica.Sync.Tries), .dat (.int .i64 x17.1.Replica.Sync.WaitUntil), .dat (.int .i64 x17.1.LastUsed), .dat (.bool x17.1.Persistent)]) (k := 1) [2, 3, 6, 7, 10, 13] [2, 3, 6, 10, 700032, 700042, 1000032, 1000042, 1100032, 1100042, 1200032, 1200042, 1500032, 1500042, 2000032, 2000042] rfl rfl rfl rfl rfl (by decide) ?_ ?_ ?_ (c_laws_markBucket x17.1 1 x129 h130) ?_ (by simp +decide [mkIds]) ?_ ?_ ?_ ?_ (s1 := ?S172) (s3 := ?S173)
  rotate_left 2
  · simp +decide only [LX, E, reduceIte, Nat.reduceAdd, Nat.reduceMul, Int.reduceEq, Int.reduceLT, Bool.not_true, Bool.not_false, L, TB, EN, *, -h]
    exact Is.mk _
  · simp +decide only [LX, F, reduceIte, Nat.reduceAdd, Bool.not_true, Bool.not_false, EN, *, -h]
  · simp +decide only [LX, F, reduceIte, Nat.reduceAdd, Bool.not_true, Bool.not_false, EN, *, -h]
  · refine ⟨_, _, rfl, rfl, rfl, ?_⟩
    refine ⟨_, _, rfl, rfl, rfl, ?_⟩
    refine ⟨_, _, rfl, rfl, rfl, ?_⟩
    refine ⟨_, _, rfl, rfl, rfl, ?_⟩
    refine ⟨_, _, rfl, rfl, rfl, ?_⟩
    refine ⟨_, _, rfl, rfl, rfl, ?_⟩
    refine ⟨144, 2, List.map M.Cache.en x17.1.Caches.Caches, List.map M.Cache.en x129.1, _, _, by simp +decide only [LX, F, reduceIte, Nat.reduceAdd, Bool.not_true, Bool.not_false, EN, *, -h], mapLen (f := M.Cache.en) (fun _ => rfl) _, rfl, rfl, ?_⟩
    refine ⟨_, _, rfl, rfl, rfl, ?_⟩
    refine ⟨_, _, rfl, rfl, rfl, ?_⟩
    refine ⟨60, 3, List.map M.Store.en x17.1.Disk.Base.Stores, List.map M.Store.en x129.2.1, _, _, by simp +decide only [LX, F, reduceIte, Nat.reduceAdd, Bool.not_true, Bool.not_false, EN, *, -h], mapLen (f := M.Store.en) (fun _ => rfl) _, rfl, rfl, ?_⟩
    refine ⟨159, 2, List.map M.IndexDef.en x17.1.Disk.Base.Unique, List.map M.IndexDef.en x129.2.2.1, _, _, by simp +decide only [LX, F, reduceIte, Nat.reduceAdd, Bool.not_true, Bool.not_false, EN, *, -h], mapLen (f := M.IndexDef.en) (fun _ => rfl) _, rfl, rfl, ?_⟩
    refine ⟨5, 1, List.map enB x17.1.Disk.Log, List.map enB x129.2.2.2.1, _, _, by simp +decide only [LX, F, reduceIte, Nat.reduceAdd, Bool.not_true, Bool.not_false, EN, *, -h], mapLen (f := enB) (fun _ => rfl) _, rfl, rfl, ?_⟩
    refine ⟨_, _, rfl, rfl, rfl, ?_⟩
    refine ⟨_, _, rfl, rfl, rfl, ?_⟩
    refine ⟨177, 4, List.map M.Item.en x17.1.Replica.Base.Items, List.map M.Item.en x129.2.2.2.2.1, _, _, by simp +decide only [LX, F, reduceIte, Nat.reduceAdd, Bool.not_true, Bool.not_false, EN, *, -h], mapLen (f := M.Item.en) (fun _ => rfl) _, rfl, rfl, ?_⟩
    refine ⟨_, _, rfl, rfl, rfl, ?_⟩
    refine ⟨_, _, rfl, rfl, rfl, ?_⟩
    refine ⟨_, _, rfl, rfl, rfl, ?_⟩
    refine ⟨_, _, rfl, rfl, rfl, ?_⟩
    refine ⟨217, 7, List.map M.Write.en x17.1.Replica.Sync.Outbox.Writes, List.map M.Write.en x129.2.2.2.2.2.1, _, _, by simp +decide only [LX, F, reduceIte, Nat.reduceAdd, Bool.not_true, Bool.not_false, EN, *, -h], mapLen (f := M.Write.en) (fun _ => rfl) _, rfl, rfl, ?_⟩
    refine ⟨_, _, rfl, rfl, rfl, ?_⟩
    refine ⟨_, _, rfl, rfl, rfl, ?_⟩
    refine ⟨_, _, rfl, rfl, rfl, ?_⟩
    refine ⟨_, _, rfl, rfl, rfl, ?_⟩
    exact ⟨rfl, rfl⟩
  · simp +decide only [LC, LX, F, reduceIte, Nat.reduceAdd, Bool.not_true, Bool.not_false, EN, *, -h]
  · simp +decide only [LC, LX, F, reduceIte, Nat.reduceAdd, Bool.not_true, Bool.not_false, EN, *, -h]
  · simp +decide only [LX, E, reduceIte, Nat.reduceAdd, Nat.reduceMul, Int.reduceEq, Int.reduceLT, Bool.not_true, Bool.not_false, L, TB, EN, *, -h]
    exact Is.mk _
  refine an (sq ?_)
  refine lcu (fun s => s.t 2 = .v false [.bp 2 1 0] ∧ s.t 3 = .v false [.bp 3 1 0] ∧ s.t 6 = .v false [.bp 6 1 0] ∧ s.t 7 = .v false [.dat (.bool x11.2)] ∧ s.t 10 = .v false [.bp 10 1 0] ∧ s.t 13 = .v false [.dat (.int .i64 x129.2.2.2.2.2.2)] ∧ s.h 2 = (1, .box 45 [.dat (.str p0.Site), .dat (.str p0.Top), .dat (.str p0.Registration.Site), .dat (.int .i64 p0.Registration.Installing), .dat (.int .i64 p0.Registration.Waiting), .dat (.int .i64 p0.Registration.Active), .old base (.sl (List.map M.Cache.en p0.Caches.Caches)) none, .dat (.str p0.Disk.Base.Name), .dat (.int .i64 p0.Disk.Base.Version), .old base (.sl (List.map M.Store.en p0.Disk.Base.Stores)) none, .old base (.sl (List.map M.IndexDef.en p0.Disk.Base.Unique)) none, .old base (.sl (List.map enB p0.Disk.Log)) none, .dat (.int .i64 p0.Disk.Count), .dat (.str p0.Replica.Base.Name), .old base (.sl (List.map M.Item.en p0.Replica.Base.Items)) none, .dat (.int .i64 p0.Replica.Base.Auto), .dat (.int .i64 p0.Replica.Seen), .dat (.int .i64 p0.Replica.Sync.Outbox.Device), .dat (.int .i64 p0.Replica.Sync.Outbox.Next), .old base (.sl (List.map M.Write.en p0.Replica.Sync.Outbox.Writes)) none, .dat (.int .i64 p0.Replica.Sync.Tries), .dat (.int .i64 p0.Replica.Sync.WaitUntil), .dat (.int .i64 p0.LastUsed), .dat (.bool p0.Persistent)]) ∧ s.h 3 = (1, .box 43 [.dat (.str p1.Base.Name), .old base (.sl (List.map M.Item.en p1.Base.Items)) none, .dat (.int .i64 p1.Base.Auto), .dat (.int .i64 p1.Seen), .dat (.int .i64 p1.Sync.Outbox.Device), .dat (.int .i64 p1.Sync.Outbox.Next), .old base (.sl (List.map M.Write.en p1.Sync.Outbox.Writes)) none, .dat (.int .i64 p1.Sync.Tries), .dat (.int .i64 p1.Sync.WaitUntil)]) ∧ s.h 6 = (1, .box 69 [.dat (.str x11.1.Site), .dat (.str x11.1.Top), .dat (.str x11.1.Registration.Site), .dat (.int .i64 x11.1.Registration.Installing), .dat (.int .i64 x11.1.Registration.Waiting), .dat (.int .i64 x11.1.Registration.Active), .row 700032 1, .dat (.str x11.1.Disk.Base.Name), .dat (.int .i64 x11.1.Disk.Base.Version), .row 1000032 1, .row 1100032 1, .row 1200032 1, .dat (.int .i64 x11.1.Disk.Count), .dat (.str x11.1.Replica.Base.Name), .row 1500032 1, .dat (.int .i64 x11.1.Replica.Base.Auto), .dat (.int .i64 x11.1.Replica.Seen), .dat (.int .i64 x11.1.Replica.Sync.Outbox.Device), .dat (.int .i64 x11.1.Replica.Sync.Outbox.Next), .row 2000032 1, .dat (.int .i64 x11.1.Replica.Sync.Tries), .dat (.int .i64 x11.1.Replica.Sync.WaitUntil), .dat (.int .i64 x11.1.LastUsed), .dat (.bool x11.1.Persistent)]) ∧ s.h 10 = (1, .box 69 [.dat (.str x17.1.Site), .dat (.str x17.1.Top), .dat (.str x17.1.Registration.Site), .dat (.int .i64 x17.1.Registration.Installing), .dat (.int .i64 x17.1.Registration.Waiting), .dat (.int .i64 x17.1.Registration.Active), .row 700042 1, .dat (.str x17.1.Disk.Base.Name), .dat (.int .i64 x17.1.Disk.Base.Version), .row 1000042 1, .row 1100042 1, .row 1200042 1, .dat (.int .i64 x17.1.Disk.Count), .dat (.str x17.1.Replica.Base.Name), .row 1500042 1, .dat (.int .i64 x17.1.Replica.Base.Auto), .dat (.int .i64 x17.1.Replica.Seen), .dat (.int .i64 x17.1.Replica.Sync.Outbox.Device), .dat (.int .i64 x17.1.Replica.Sync.Outbox.Next), .row 2000042 1, .dat (.int .i64 x17.1.Replica.Sync.Tries), .dat (.int .i64 x17.1.Replica.Sync.WaitUntil), .dat (.int .i64 x17.1.LastUsed), .dat (.bool x17.1.Persistent)]) ∧ s.h 700032 = (1, .row 144 2 (List.map M.Cache.en x11.1.Caches.Caches) true) ∧ s.h 700042 = (1, .row 144 2 (List.map M.Cache.en x129.1) true) ∧ s.h 1000032 = (1, .row 60 3 (List.map M.Store.en x11.1.Disk.Base.Stores) true) ∧ s.h 1000042 = (1, .row 60 3 (List.map M.Store.en x129.2.1) true) ∧ s.h 1100032 = (1, .row 159 2 (List.map M.IndexDef.en x11.1.Disk.Base.Unique) true) ∧ s.h 1100042 = (1, .row 159 2 (List.map M.IndexDef.en x129.2.2.1) true) ∧ s.h 1200032 = (1, .row 5 1 (List.map enB x11.1.Disk.Log) true) ∧ s.h 1200042 = (1, .row 5 1 (List.map enB x129.2.2.2.1) true) ∧ s.h 1500032 = (1, .row 177 4 (List.map M.Item.en x11.1.Replica.Base.Items) true) ∧ s.h 1500042 = (1, .row 177 4 (List.map M.Item.en x129.2.2.2.2.1) true) ∧ s.h 2000032 = (1, .row 217 7 (List.map M.Write.en x11.1.Replica.Sync.Outbox.Writes) true) ∧ s.h 2000042 = (1, .row 217 7 (List.map M.Write.en x129.2.2.2.2.2.1) true) ∧ True) ?_
  rintro s131 ⟨f132, f133, f134, f135, f136, f137, f138, f139, f140, f141, f142, f143, f144, f145, f146, f147, f148, f149, f150, f151, f152, f153, _⟩
  refine ln ?_
  refine an (sq ?_)
  obtain ⟨x154, h155, h⟩ := bind_some h
  refine ln1 (c16 _ _ _ h155) ?_
  refine an (sq (sq (ln ?_)))
  refine an ?_
  rcases bcase (decide (x154 < 0)) with b156 | b156
  · replace h := ite_t b156 h
    refine lct (sq (ln ?_))
    refine an (rt ?_)
    cases h
    simp [Ret, TB, EN, *]
  replace h := ite_f b156 h
  refine lcf (sk (an (sq (sq (ln ?_)))))
  refine an ?_
  rcases bcase (x154 != x129.2.2.2.2.2.2) with b157 | b157
  · replace h := ite_t b157 h
    refine lct (sq (ln ?_))
    refine an (rt ?_)
    cases h
    simp [Ret, TB, EN, *]
  replace h := ite_f b157 h
  refine lcf (sk (an (sq ?_)))
  obtain ⟨x158, h159, h⟩ := bind_some h
  obtain ⟨x160, h161, h⟩ := bind_some h
  obtain ⟨x162, h163, h⟩ := bind_some h
  apply SW_runD mixed
  · simp +decide only [LX, E, reduceIte, Nat.reduceAdd, Nat.reduceMul, Bool.not_true, Bool.not_false, L, ti43, ti45, ti69, EN, b3, b6, b21, b22, b27, b32, b125, b128, f132, f133, f134, f135, f136, f137, f138, f139, f140, f141, f142, f143, f144, f145, f146, f147, f148, f149, f150, f151, f152, f153, b156, b157]
    refine ⟨_, c9 _ _ h159, ?_⟩
    try simp +decide only [LX, E, reduceIte, Nat.reduceAdd, Nat.reduceMul, Bool.not_true, Bool.not_false, L, ti43, ti45, ti69, EN, b3, b6, b21, b22, b27, b32, b125, b128, f132, f133, f134, f135, f136, f137, f138, f139, f140, f141, f142, f143, f144, f145, f146, f147, f148, f149, f150, f151, f152, f153, b156, b157]
    refine ⟨_, c19 _ _ h161, ?_⟩
    try simp +decide only [LX, E, reduceIte, Nat.reduceAdd, Nat.reduceMul, Bool.not_true, Bool.not_false, L, ti43, ti45, ti69, EN, b3, b6, b21, b22, b27, b32, b125, b128, f132, f133, f134, f135, f136, f137, f138, f139, f140, f141, f142, f143, f144, f145, f146, f147, f148, f149, f150, f151, f152, f153, b156, b157]
    refine ⟨_, c20 _ _ _ h163, ?_⟩
    try simp +decide only [LX, E, reduceIte, Nat.reduceAdd, Nat.reduceMul, Bool.not_true, Bool.not_false, L, ti43, ti45, ti69, EN, b3, b6, b21, b22, b27, b32, b125, b128, f132, f133, f134, f135, f136, f137, f138, f139, f140, f141, f142, f143, f144, f145, f146, f147, f148, f149, f150, f151, f152, f153, b156, b157]
    exact ⟨.mk (by decide +kernel), Is.mk _⟩
  refine an (sq (sq ?_))
  obtain ⟨x164, h165, h⟩ := bind_some h
  rcases bcase (!x164) with b166 | b166
  · replace h := ite_t b166 h
    refine ln1 (c12 _ _ _ h165) ?_
    refine an (lct (sq (ln ?_)))
    refine an (rt ?_)
    cases h
    simp [Ret, TB, EN, *]
  replace h := ite_f b166 h
  refine ln1 (c12 _ _ _ h165) ?_
  refine an ?_
  rcases bcase (!(x162.2 == x11.2)) with b167 | b167
  · replace h := ite_t b167 h
    refine lct (sq (ln ?_))
    refine an (rt ?_)
    cases h
    simp [Ret, TB, EN, *]
  replace h := ite_f b167 h
  refine lcf (sk (an (sq (ln ?_))))
  refine an (sq ?_)
  obtain ⟨x168, h169, h⟩ := bind_some h
  refine ln1 (c16 _ _ _ h169) ?_
  refine an (sq (sq (ln ?_)))
  refine an ?_
  rcases bcase (decide (x168 < 0)) with b170 | b170
  · replace h := ite_t b170 h
    refine lct (sq (ln ?_))
    refine an (rt ?_)
    cases h
    simp [Ret, TB, EN, *]
  replace h := ite_f b170 h
  refine lcf (sk (an (sq (sq (ln ?_)))))
  refine an ?_
  rcases bcase (x168 != x129.2.2.2.2.2.2) with b171 | b171
  · replace h := ite_t b171 h
    refine lct (sq (ln ?_))
    refine an (rt ?_)
    cases h
    simp [Ret, TB, EN, *]
  replace h := ite_f b171 h
  refine lcf (sk (an (sq (ln ?_))))
  refine an (rt ?_)
  cases h
  simp [Ret, TB, EN, *]

end Go.Proofs.YtmpbibngijnfeaaGreat.gen
