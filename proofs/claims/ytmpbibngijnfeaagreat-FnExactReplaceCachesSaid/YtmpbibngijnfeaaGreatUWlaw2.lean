/-
  Helper text: walks: each function's contract out of its model. No conditions beyond those of each contract.
-/
import Derived.Test.YtmpbibngijnfeaaGreatUTi
import Derived.Test.YtmpbibngijnfeaaGreatUWeq
import Derived.Test.YtmpbibngijnfeaaGreatUWheld
import Derived.Test.YtmpbibngijnfeaaGreatUWimpl1
import Derived.Test.YtmpbibngijnfeaaGreatUWmark
import Derived.Test.YtmpbibngijnfeaaGreatUWspec1
import Derived.Test.YtmpbibngijnfeaaGreatUWsz
import Derived.Test.YtmpbibngijnfeaaGreatUWto
namespace Go.Proofs.YtmpbibngijnfeaaGreat.gen
open Go Go.Sh
set_option linter.unusedVariables false
set_option linter.unusedSimpArgs false
set_option maxRecDepth 20000
set_option maxHeartbeats 4000000
set_option maxRecDepth 20000 in
set_option maxHeartbeats 4000000 in
theorem c_laws_FnExactReplaceCaches (p0 : M.Bucket) (p1 : M.CacheSet) (p2 : M.Registration) (r : Bool) (h : m_laws_FnExactReplaceCaches p0 p1 p2 = some r) : SCalls Tryz.prog 5 [(true, M.Bucket.en p0), (true, M.CacheSet.en p1), (true, M.Registration.en p2)] [(false, [.ro (.bool r)])] := by
  unfold m_laws_FnExactReplaceCaches at h
  simp only [M.Bucket.en, M.CacheSet.en, M.Registration.en]
  refine scallsL (N := 132) (vars := [.tmp 6]) Tryz.func5 rfl rfl rfl (by decide +kernel) (Nat.le_of_ble_eq_true rfl) fun base wd => ?_
  refine sq (ln ?_)
  refine an (sq (ln ?_))
  refine an (sq ?_)
  obtain ⟨x1, h2, h⟩ := bind_some h
  refine ln1 (c6 _ _ _ h2) ?_
  refine an (sq (sq (ln ?_)))
  refine an ?_
  rcases bcase (decide (x1 < 0)) with b3 | b3
  · replace h := ite_t b3 h
    refine lct (sq (ln ?_))
    refine an (rt ?_)
    cases h
    simp [Ret, TB, EN, *]
  replace h := ite_f b3 h
  refine lcf (sk (an (sq ?_)))
  obtain ⟨x4, h5, h⟩ := bind_some h
  refine ln1 (c23 _ _ _ h5) ?_
  refine an (sq (sq (ln ?_)))
  refine an ?_
  rcases bcase (decide (x4 < 0)) with b6 | b6
  · replace h := ite_t b6 h
    refine lct (sq (ln ?_))
    refine an (rt ?_)
    cases h
    simp [Ret, TB, EN, *]
  replace h := ite_f b6 h
  refine lcf (sk (an (sq ?_)))
  obtain ⟨x7, h8, h⟩ := bind_some h
  refine ln1 (c24 _ _ _ h8) ?_
  refine an (sq (sq (ln ?_)))
  refine an ?_
  rcases bcase (decide (x7 < 0)) with b9 | b9
  · replace h := ite_t b9 h
    refine lct (sq (ln ?_))
    refine an (rt ?_)
    cases h
    simp [Ret, TB, EN, *]
  replace h := ite_f b9 h
  refine lcf (sk (an (sq ?_)))
  obtain ⟨x10, h11, h⟩ := bind_some h
  obtain ⟨x12, h13, h⟩ := bind_some h
  obtain ⟨x14, h15, h⟩ := bind_some h
  obtain ⟨x16, h17, h⟩ := bind_some h
  apply SW_runD mixed
  · simp +decide only [LX, E, reduceIte, Nat.reduceAdd, Nat.reduceMul, Bool.not_true, Bool.not_false, L, ti23, ti26, ti45, ti69, EN, b3, b6, b9]
    refine ⟨_, c9 _ _ h11, ?_⟩
    try simp +decide only [LX, E, reduceIte, Nat.reduceAdd, Nat.reduceMul, Bool.not_true, Bool.not_false, L, ti23, ti26, ti45, ti69, EN, b3, b6, b9]
    refine ⟨_, c26 _ _ h13, ?_⟩
    try simp +decide only [LX, E, reduceIte, Nat.reduceAdd, Nat.reduceMul, Bool.not_true, Bool.not_false, L, ti23, ti26, ti45, ti69, EN, b3, b6, b9]
    refine ⟨_, c27 _ _ h15, ?_⟩
    try simp +decide only [LX, E, reduceIte, Nat.reduceAdd, Nat.reduceMul, Bool.not_true, Bool.not_false, L, ti23, ti26, ti45, ti69, EN, b3, b6, b9]
    refine ⟨_, c25 _ _ _ _ h17, ?_⟩
    try simp +decide only [LX, E, reduceIte, Nat.reduceAdd, Nat.reduceMul, Bool.not_true, Bool.not_false, L, ti23, ti26, ti45, ti69, EN, b3, b6, b9]
    exact ⟨.mk (by decide +kernel), Is.mk _⟩
  refine an (sq ?_)
  obtain ⟨x18, h19, h⟩ := bind_some h
  refine ln1 (c9 _ _ h19) ?_
  refine an (sq ?_)
  obtain ⟨x20, h21, h⟩ := bind_some h
  refine ln1 (c26 _ _ h21) ?_
  refine an (sq ?_)
  obtain ⟨x22, h23, h⟩ := bind_some h
  obtain ⟨x24, h25, h⟩ := bind_some h
  refine ld2 mixed (c27 _ _ h23) (c28 _ _ _ _ h25) ?_
  refine an (sq (sq ?_))
  obtain ⟨x26, h27, h⟩ := bind_some h
  rcases bcase (!x26) with b28 | b28
  · replace h := ite_t b28 h
    refine ln1 (c12 _ _ _ h27) ?_
    refine an (lct (sq (ln ?_)))
    refine an (rt ?_)
    cases h
    simp [Ret, TB, EN, *]
  replace h := ite_f b28 h
  refine ln1 (c12 _ _ _ h27) ?_
  refine an ?_
  rcases bcase (!(x24.2 == x16.2)) with b29 | b29
  · replace h := ite_t b29 h
    refine lct (sq (ln ?_))
    refine an (rt ?_)
    cases h
    simp [Ret, TB, EN, *]
  replace h := ite_f b29 h
  refine lcf (sk (an (sq (sq ?_))))
  refine lcu (fun s => s.t 3 = .v false [.bp 3 1 0] ∧ s.t 4 = .v false [.bp 4 1 0] ∧ s.t 5 = .v false [.bp 5 1 0] ∧ s.t 8 = .v false [.bp 8 1 0] ∧ s.t 9 = .v false [.dat (.bool x16.2)] ∧ s.t 10 = .v false [.bp 10 1 0] ∧ s.t 11 = .v false [.bp 11 1 0] ∧ s.t 12 = .v false [.bp 12 1 0] ∧ s.t 13 = .v false [.dat (.bool x24.2)] ∧ s.h 3 = (1, .box 45 [.dat (.str p0.Site), .dat (.str p0.Top), .dat (.str p0.Registration.Site), .dat (.int .i64 p0.Registration.Installing), .dat (.int .i64 p0.Registration.Waiting), .dat (.int .i64 p0.Registration.Active), .old base (.sl (List.map M.Cache.en p0.Caches.Caches)) none, .dat (.str p0.Disk.Base.Name), .dat (.int .i64 p0.Disk.Base.Version), .old base (.sl (List.map M.Store.en p0.Disk.Base.Stores)) none, .old base (.sl (List.map M.IndexDef.en p0.Disk.Base.Unique)) none, .old base (.sl (List.map enB p0.Disk.Log)) none, .dat (.int .i64 p0.Disk.Count), .dat (.str p0.Replica.Base.Name), .old base (.sl (List.map M.Item.en p0.Replica.Base.Items)) none, .dat (.int .i64 p0.Replica.Base.Auto), .dat (.int .i64 p0.Replica.Seen), .dat (.int .i64 p0.Replica.Sync.Outbox.Device), .dat (.int .i64 p0.Replica.Sync.Outbox.Next), .old base (.sl (List.map M.Write.en p0.Replica.Sync.Outbox.Writes)) none, .dat (.int .i64 p0.Replica.Sync.Tries), .dat (.int .i64 p0.Replica.Sync.WaitUntil), .dat (.int .i64 p0.LastUsed), .dat (.bool p0.Persistent)]) ∧ s.h 4 = (1, .box 26 [.old base (.sl (List.map M.Cache.en p1.Caches)) none]) ∧ s.h 5 = (1, .box 23 [.dat (.str p2.Site), .dat (.int .i64 p2.Installing), .dat (.int .i64 p2.Waiting), .dat (.int .i64 p2.Active)]) ∧ s.h 8 = (1, .box 69 [.dat (.str x16.1.Site), .dat (.str x16.1.Top), .dat (.str x16.1.Registration.Site), .dat (.int .i64 x16.1.Registration.Installing), .dat (.int .i64 x16.1.Registration.Waiting), .dat (.int .i64 x16.1.Registration.Active), .row 700041 1, .dat (.str x16.1.Disk.Base.Name), .dat (.int .i64 x16.1.Disk.Base.Version), .row 1000041 1, .row 1100041 1, .row 1200041 1, .dat (.int .i64 x16.1.Disk.Count), .dat (.str x16.1.Replica.Base.Name), .row 1500041 1, .dat (.int .i64 x16.1.Replica.Base.Auto), .dat (.int .i64 x16.1.Replica.Seen), .dat (.int .i64 x16.1.Replica.Sync.Outbox.Device), .dat (.int .i64 x16.1.Replica.Sync.Outbox.Next), .row 2000041 1, .dat (.int .i64 x16.1.Replica.Sync.Tries), .dat (.int .i64 x16.1.Replica.Sync.WaitUntil), .dat (.int .i64 x16.1.LastUsed), .dat (.bool x16.1.Persistent)]) ∧ s.h 10 = (1, .box 69 [.dat (.str x18.Site), .dat (.str x18.Top), .dat (.str x18.Registration.Site), .dat (.int .i64 x18.Registration.Installing), .dat (.int .i64 x18.Registration.Waiting), .dat (.int .i64 x18.Registration.Active), .row 700045 1, .dat (.str x18.Disk.Base.Name), .dat (.int .i64 x18.Disk.Base.Version), .row 1000045 1, .row 1100045 1, .row 1200045 1, .dat (.int .i64 x18.Disk.Count), .dat (.str x18.Replica.Base.Name), .row 1500045 1, .dat (.int .i64 x18.Replica.Base.Auto), .dat (.int .i64 x18.Replica.Seen), .dat (.int .i64 x18.Replica.Sync.Outbox.Device), .dat (.int .i64 x18.Replica.Sync.Outbox.Next), .row 2000045 1, .dat (.int .i64 x18.Replica.Sync.Tries), .dat (.int .i64 x18.Replica.Sync.WaitUntil), .dat (.int .i64 x18.LastUsed), .dat (.bool x18.Persistent)]) ∧ s.h 11 = (1, .box 51 [.row 100047 1]) ∧ s.h 12 = (1, .box 69 [.dat (.str x24.1.Site), .dat (.str x24.1.Top), .dat (.str x24.1.Registration.Site), .dat (.int .i64 x24.1.Registration.Installing), .dat (.int .i64 x24.1.Registration.Waiting), .dat (.int .i64 x24.1.Registration.Active), .row 700053 1, .dat (.str x24.1.Disk.Base.Name), .dat (.int .i64 x24.1.Disk.Base.Version), .row 1000053 1, .row 1100053 1, .row 1200053 1, .dat (.int .i64 x24.1.Disk.Count), .dat (.str x24.1.Replica.Base.Name), .row 1500053 1, .dat (.int .i64 x24.1.Replica.Base.Auto), .dat (.int .i64 x24.1.Replica.Seen), .dat (.int .i64 x24.1.Replica.Sync.Outbox.Device), .dat (.int .i64 x24.1.Replica.Sync.Outbox.Next), .row 2000053 1, .dat (.int .i64 x24.1.Replica.Sync.Tries), .dat (.int .i64 x24.1.Replica.Sync.WaitUntil), .dat (.int .i64 x24.1.LastUsed), .dat (.bool x24.1.Persistent)]) ∧ s.h 100047 = (1, .row 144 2 (List.map M.Cache.en x20.Caches) true) ∧ s.h 700041 = (1, .row 144 2 (List.map M.Cache.en x16.1.Caches.Caches) true) ∧ s.h 700045 = (1, .row 144 2 (List.map M.Cache.en x18.Caches.Caches) true) ∧ s.h 700053 = (1, .row 144 2 (List.map M.Cache.en x24.1.Caches.Caches) true) ∧ s.h 1000041 = (1, .row 60 3 (List.map M.Store.en x16.1.Disk.Base.Stores) true) ∧ s.h 1000045 = (1, .row 60 3 (List.map M.Store.en x18.Disk.Base.Stores) true) ∧ s.h 1000053 = (1, .row 60 3 (List.map M.Store.en x24.1.Disk.Base.Stores) true) ∧ s.h 1100041 = (1, .row 159 2 (List.map M.IndexDef.en x16.1.Disk.Base.Unique) true) ∧ s.h 1100045 = (1, .row 159 2 (List.map M.IndexDef.en x18.Disk.Base.Unique) true) ∧ s.h 1100053 = (1, .row 159 2 (List.map M.IndexDef.en x24.1.Disk.Base.Unique) true) ∧ s.h 1200041 = (1, .row 5 1 (List.map enB x16.1.Disk.Log) true) ∧ s.h 1200045 = (1, .row 5 1 (List.map enB x18.Disk.Log) true) ∧ s.h 1200053 = (1, .row 5 1 (List.map enB x24.1.Disk.Log) true) ∧ s.h 1500041 = (1, .row 177 4 (List.map M.Item.en x16.1.Replica.Base.Items) true) ∧ s.h 1500045 = (1, .row 177 4 (List.map M.Item.en x18.Replica.Base.Items) true) ∧ s.h 1500053 = (1, .row 177 4 (List.map M.Item.en x24.1.Replica.Base.Items) true) ∧ s.h 2000041 = (1, .row 217 7 (List.map M.Write.en x16.1.Replica.Sync.Outbox.Writes) true) ∧ s.h 2000045 = (1, .row 217 7 (List.map M.Write.en x18.Replica.Sync.Outbox.Writes) true) ∧ s.h 2000053 = (1, .row 217 7 (List.map M.Write.en x24.1.Replica.Sync.Outbox.Writes) true) ∧ True) ?_
  rintro s30 ⟨f31, f32, f33, f34, f35, f36, f37, f38, f39, f40, f41, f42, f43, f44, f45, f46, f47, f48, f49, f50, f51, f52, f53, f54, f55, f56, f57, f58, f59, f60, f61, f62, f63, f64, f65, _⟩
  obtain ⟨x66, h67, h⟩ := bind_some h
  obtain ⟨x68, h69, h⟩ := bind_some h
  refine ld2 mixed (c9 _ _ h67) (c12 _ _ _ h69) ?_
  refine an ?_
  rcases bcase (!x68) with b70 | b70
  · replace h := ite_t b70 h
    refine lct (sq (ln ?_))
    refine an (rt ?_)
    cases h
    simp [Ret, TB, EN, *]
  replace h := ite_f b70 h
  refine lcf (sk (an (sq (sq ?_))))
  obtain ⟨x71, h72, h⟩ := bind_some h
  obtain ⟨x73, h74, h⟩ := bind_some h
  refine ld2 mixed (c26 _ _ h72) (c29 _ _ _ h74) ?_
  refine an ?_
  rcases bcase (!x73) with b75 | b75
  · replace h := ite_t b75 h
    refine lct (sq (ln ?_))
    refine an (rt ?_)
    cases h
    simp [Ret, TB, EN, *]
  replace h := ite_f b75 h
  refine lcf (sk (an (sq (ln ?_))))
  refine an (sq ?_)
  obtain ⟨x76, h77, h⟩ := bind_some h
  refine SW_mark (n := 2) (x := 75) (y := 76) (d := 77) (ag := true) (cs := [.dat (.str x18.Site), .dat (.str x18.Top), .dat (.str x18.Registration.Site), .dat (.int .i64 x18.Registration.Installing), .dat (.int .i64 x18.Registration.Waiting), .dat (.int .i64 x18.Registration.Active), .row 700045 1, .dat (.str x18.Disk.Base.Name), .dat (.int .i64 x18.Disk.Base.Version), .row 1000045 1, .row 1100045 1, .row 1200045 1, .dat (.int .i64 x18.Disk.Count), .dat (.str x18.Replica.Base.Name), .row 1500045 1, .dat (.int .i64 x18.Replica.Base.Auto), .dat (.int .i64 x18.Replica.Seen), .dat (.int .i64 x18.Replica.Sync.Outbox.Device), .dat (.int .i64 x18.Replica.Sync.Outbox.Next), .row 2000045 1, .dat (.int .i64 x18.Replica.Sync.Tries), .dat (.int .i64 x18.Replica.Sync.WaitUntil), .dat (.int .i64 x18.LastUsed), .dat (.bool x18.Persistent)]) (k := 1) [3, 4, 5, 8, 9, 11, 12, 13, 14] [3, 4, 5, 8, 11, 12, 100047, 700041, 700053, 1000041, 1000053, 1100041, 1100053, 1200041, 1200053, 1500041, 1500053, 2000041, 2000053] rfl rfl rfl rfl rfl (by decide) ?_ ?_ ?_ (c_laws_markBucket x18 1 x76 h77) ?_ (by simp +decide [mkIds]) ?_ ?_ ?_ ?_ (s1 := ?S190) (s3 := ?S191)
  rotate_left 2
  · simp +decide only [LX, E, reduceIte, Nat.reduceAdd, Nat.reduceMul, Int.reduceEq, Int.reduceLT, Bool.not_true, Bool.not_false, L, TB, EN, *, -h]
    exact Is.mk _
  · simp +decide only [LX, F, reduceIte, Nat.reduceAdd, Bool.not_true, Bool.not_false, EN, *, -h]
  · simp +decide only [LX, F, reduceIte, Nat.reduceAdd, Bool.not_true, Bool.not_false, EN, *, -h]
  · refine ⟨_, _, rfl, rfl, rfl, ?_⟩
    refine ⟨_, _, rfl, rfl, rfl, ?_⟩
    refine ⟨_, _, rfl, rfl, rfl, ?_⟩
    refine ⟨_, _, rfl, rfl, rfl, ?_⟩
    refine ⟨_, _, rfl, rfl, rfl, ?_⟩
    refine ⟨_, _, rfl, rfl, rfl, ?_⟩
    refine ⟨144, 2, List.map M.Cache.en x18.Caches.Caches, List.map M.Cache.en x76.1, _, _, by simp +decide only [LX, F, reduceIte, Nat.reduceAdd, Bool.not_true, Bool.not_false, EN, *, -h], mapLen (f := M.Cache.en) (fun _ => rfl) _, rfl, rfl, ?_⟩
    refine ⟨_, _, rfl, rfl, rfl, ?_⟩
    refine ⟨_, _, rfl, rfl, rfl, ?_⟩
    refine ⟨60, 3, List.map M.Store.en x18.Disk.Base.Stores, List.map M.Store.en x76.2.1, _, _, by simp +decide only [LX, F, reduceIte, Nat.reduceAdd, Bool.not_true, Bool.not_false, EN, *, -h], mapLen (f := M.Store.en) (fun _ => rfl) _, rfl, rfl, ?_⟩
    refine ⟨159, 2, List.map M.IndexDef.en x18.Disk.Base.Unique, List.map M.IndexDef.en x76.2.2.1, _, _, by simp +decide only [LX, F, reduceIte, Nat.reduceAdd, Bool.not_true, Bool.not_false, EN, *, -h], mapLen (f := M.IndexDef.en) (fun _ => rfl) _, rfl, rfl, ?_⟩
    refine ⟨5, 1, List.map enB x18.Disk.Log, List.map enB x76.2.2.2.1, _, _, by simp +decide only [LX, F, reduceIte, Nat.reduceAdd, Bool.not_true, Bool.not_false, EN, *, -h], mapLen (f := enB) (fun _ => rfl) _, rfl, rfl, ?_⟩
    refine ⟨_, _, rfl, rfl, rfl, ?_⟩
    refine ⟨_, _, rfl, rfl, rfl, ?_⟩
    refine ⟨177, 4, List.map M.Item.en x18.Replica.Base.Items, List.map M.Item.en x76.2.2.2.2.1, _, _, by simp +decide only [LX, F, reduceIte, Nat.reduceAdd, Bool.not_true, Bool.not_false, EN, *, -h], mapLen (f := M.Item.en) (fun _ => rfl) _, rfl, rfl, ?_⟩
    refine ⟨_, _, rfl, rfl, rfl, ?_⟩
    refine ⟨_, _, rfl, rfl, rfl, ?_⟩
    refine ⟨_, _, rfl, rfl, rfl, ?_⟩
    refine ⟨_, _, rfl, rfl, rfl, ?_⟩
    refine ⟨217, 7, List.map M.Write.en x18.Replica.Sync.Outbox.Writes, List.map M.Write.en x76.2.2.2.2.2.1, _, _, by simp +decide only [LX, F, reduceIte, Nat.reduceAdd, Bool.not_true, Bool.not_false, EN, *, -h], mapLen (f := M.Write.en) (fun _ => rfl) _, rfl, rfl, ?_⟩
    refine ⟨_, _, rfl, rfl, rfl, ?_⟩
    refine ⟨_, _, rfl, rfl, rfl, ?_⟩
    refine ⟨_, _, rfl, rfl, rfl, ?_⟩
    refine ⟨_, _, rfl, rfl, rfl, ?_⟩
    exact ⟨rfl, rfl⟩
  · simp +decide only [LC, LX, F, reduceIte, Nat.reduceAdd, Bool.not_true, Bool.not_false, EN, *, -h]
  · simp +decide only [LC, LX, F, reduceIte, Nat.reduceAdd, Bool.not_true, Bool.not_false, EN, *, -h]
  · simp +decide only [LX, E, reduceIte, Nat.reduceAdd, Nat.reduceMul, Int.reduceEq, Int.reduceLT, Bool.not_true, Bool.not_false, L, TB, EN, *, -h]
    exact Is.mk _
  refine an (sq ?_)
  refine lcu (fun s => s.t 3 = .v false [.bp 3 1 0] ∧ s.t 4 = .v false [.bp 4 1 0] ∧ s.t 5 = .v false [.bp 5 1 0] ∧ s.t 8 = .v false [.bp 8 1 0] ∧ s.t 9 = .v false [.dat (.bool x16.2)] ∧ s.t 11 = .v false [.bp 11 1 0] ∧ s.t 12 = .v false [.bp 12 1 0] ∧ s.t 13 = .v false [.dat (.bool x24.2)] ∧ s.t 14 = .v false [.dat (.int .i64 x76.2.2.2.2.2.2)] ∧ s.h 3 = (1, .box 45 [.dat (.str p0.Site), .dat (.str p0.Top), .dat (.str p0.Registration.Site), .dat (.int .i64 p0.Registration.Installing), .dat (.int .i64 p0.Registration.Waiting), .dat (.int .i64 p0.Registration.Active), .old base (.sl (List.map M.Cache.en p0.Caches.Caches)) none, .dat (.str p0.Disk.Base.Name), .dat (.int .i64 p0.Disk.Base.Version), .old base (.sl (List.map M.Store.en p0.Disk.Base.Stores)) none, .old base (.sl (List.map M.IndexDef.en p0.Disk.Base.Unique)) none, .old base (.sl (List.map enB p0.Disk.Log)) none, .dat (.int .i64 p0.Disk.Count), .dat (.str p0.Replica.Base.Name), .old base (.sl (List.map M.Item.en p0.Replica.Base.Items)) none, .dat (.int .i64 p0.Replica.Base.Auto), .dat (.int .i64 p0.Replica.Seen), .dat (.int .i64 p0.Replica.Sync.Outbox.Device), .dat (.int .i64 p0.Replica.Sync.Outbox.Next), .old base (.sl (List.map M.Write.en p0.Replica.Sync.Outbox.Writes)) none, .dat (.int .i64 p0.Replica.Sync.Tries), .dat (.int .i64 p0.Replica.Sync.WaitUntil), .dat (.int .i64 p0.LastUsed), .dat (.bool p0.Persistent)]) ∧ s.h 4 = (1, .box 26 [.old base (.sl (List.map M.Cache.en p1.Caches)) none]) ∧ s.h 5 = (1, .box 23 [.dat (.str p2.Site), .dat (.int .i64 p2.Installing), .dat (.int .i64 p2.Waiting), .dat (.int .i64 p2.Active)]) ∧ s.h 8 = (1, .box 69 [.dat (.str x16.1.Site), .dat (.str x16.1.Top), .dat (.str x16.1.Registration.Site), .dat (.int .i64 x16.1.Registration.Installing), .dat (.int .i64 x16.1.Registration.Waiting), .dat (.int .i64 x16.1.Registration.Active), .row 700041 1, .dat (.str x16.1.Disk.Base.Name), .dat (.int .i64 x16.1.Disk.Base.Version), .row 1000041 1, .row 1100041 1, .row 1200041 1, .dat (.int .i64 x16.1.Disk.Count), .dat (.str x16.1.Replica.Base.Name), .row 1500041 1, .dat (.int .i64 x16.1.Replica.Base.Auto), .dat (.int .i64 x16.1.Replica.Seen), .dat (.int .i64 x16.1.Replica.Sync.Outbox.Device), .dat (.int .i64 x16.1.Replica.Sync.Outbox.Next), .row 2000041 1, .dat (.int .i64 x16.1.Replica.Sync.Tries), .dat (.int .i64 x16.1.Replica.Sync.WaitUntil), .dat (.int .i64 x16.1.LastUsed), .dat (.bool x16.1.Persistent)]) ∧ s.h 11 = (1, .box 51 [.row 100047 1]) ∧ s.h 12 = (1, .box 69 [.dat (.str x24.1.Site), .dat (.str x24.1.Top), .dat (.str x24.1.Registration.Site), .dat (.int .i64 x24.1.Registration.Installing), .dat (.int .i64 x24.1.Registration.Waiting), .dat (.int .i64 x24.1.Registration.Active), .row 700053 1, .dat (.str x24.1.Disk.Base.Name), .dat (.int .i64 x24.1.Disk.Base.Version), .row 1000053 1, .row 1100053 1, .row 1200053 1, .dat (.int .i64 x24.1.Disk.Count), .dat (.str x24.1.Replica.Base.Name), .row 1500053 1, .dat (.int .i64 x24.1.Replica.Base.Auto), .dat (.int .i64 x24.1.Replica.Seen), .dat (.int .i64 x24.1.Replica.Sync.Outbox.Device), .dat (.int .i64 x24.1.Replica.Sync.Outbox.Next), .row 2000053 1, .dat (.int .i64 x24.1.Replica.Sync.Tries), .dat (.int .i64 x24.1.Replica.Sync.WaitUntil), .dat (.int .i64 x24.1.LastUsed), .dat (.bool x24.1.Persistent)]) ∧ s.h 100047 = (1, .row 144 2 (List.map M.Cache.en x20.Caches) true) ∧ s.h 700041 = (1, .row 144 2 (List.map M.Cache.en x16.1.Caches.Caches) true) ∧ s.h 700053 = (1, .row 144 2 (List.map M.Cache.en x24.1.Caches.Caches) true) ∧ s.h 1000041 = (1, .row 60 3 (List.map M.Store.en x16.1.Disk.Base.Stores) true) ∧ s.h 1000053 = (1, .row 60 3 (List.map M.Store.en x24.1.Disk.Base.Stores) true) ∧ s.h 1100041 = (1, .row 159 2 (List.map M.IndexDef.en x16.1.Disk.Base.Unique) true) ∧ s.h 1100053 = (1, .row 159 2 (List.map M.IndexDef.en x24.1.Disk.Base.Unique) true) ∧ s.h 1200041 = (1, .row 5 1 (List.map enB x16.1.Disk.Log) true) ∧ s.h 1200053 = (1, .row 5 1 (List.map enB x24.1.Disk.Log) true) ∧ s.h 1500041 = (1, .row 177 4 (List.map M.Item.en x16.1.Replica.Base.Items) true) ∧ s.h 1500053 = (1, .row 177 4 (List.map M.Item.en x24.1.Replica.Base.Items) true) ∧ s.h 2000041 = (1, .row 217 7 (List.map M.Write.en x16.1.Replica.Sync.Outbox.Writes) true) ∧ s.h 2000053 = (1, .row 217 7 (List.map M.Write.en x24.1.Replica.Sync.Outbox.Writes) true) ∧ True) ?_
  rintro s78 ⟨f79, f80, f81, f82, f83, f84, f85, f86, f87, f88, f89, f90, f91, f92, f93, f94, f95, f96, f97, f98, f99, f100, f101, f102, f103, f104, f105, f106, _⟩
  obtain ⟨x107, h108, h⟩ := bind_some h
  refine SW_mark (n := 2) (x := 78) (y := 79) (d := 80) (ag := true) (cs := [.row 100047 1]) (k := x76.2.2.2.2.2.2) [3, 4, 5, 8, 9, 12, 13, 14] [3, 4, 5, 8, 12, 700041, 700053, 1000041, 1000053, 1100041, 1100053, 1200041, 1200053, 1500041, 1500053, 2000041, 2000053] rfl rfl rfl rfl rfl (by decide) ?_ ?_ ?_ (c_laws_markCacheSet x20 x76.2.2.2.2.2.2 x107 h108) ?_ (by simp +decide [mkIds]) ?_ ?_ ?_ ?_ (s1 := ?S188) (s3 := ?S189)
  rotate_left 2
  · simp +decide only [LX, E, reduceIte, Nat.reduceAdd, Nat.reduceMul, Int.reduceEq, Int.reduceLT, Bool.not_true, Bool.not_false, L, TB, EN, *, -h]
    exact Is.mk _
  · simp +decide only [LX, F, reduceIte, Nat.reduceAdd, Bool.not_true, Bool.not_false, EN, *, -h]
  · simp +decide only [LX, F, reduceIte, Nat.reduceAdd, Bool.not_true, Bool.not_false, EN, *, -h]
  · refine ⟨144, 2, List.map M.Cache.en x20.Caches, List.map M.Cache.en x107.1, _, _, by simp +decide only [LX, F, reduceIte, Nat.reduceAdd, Bool.not_true, Bool.not_false, EN, *, -h], mapLen (f := M.Cache.en) (fun _ => rfl) _, rfl, rfl, ?_⟩
    exact ⟨rfl, rfl⟩
  · simp +decide only [LC, LX, F, reduceIte, Nat.reduceAdd, Bool.not_true, Bool.not_false, EN, *, -h]
  · simp +decide only [LC, LX, F, reduceIte, Nat.reduceAdd, Bool.not_true, Bool.not_false, EN, *, -h]
  · simp +decide only [LX, E, reduceIte, Nat.reduceAdd, Nat.reduceMul, Int.reduceEq, Int.reduceLT, Bool.not_true, Bool.not_false, L, TB, EN, *, -h]
    exact Is.mk _
  refine an (sq (sq ?_))
  refine lcu (fun s => s.t 3 = .v false [.bp 3 1 0] ∧ s.t 4 = .v false [.bp 4 1 0] ∧ s.t 5 = .v false [.bp 5 1 0] ∧ s.t 8 = .v false [.bp 8 1 0] ∧ s.t 9 = .v false [.dat (.bool x16.2)] ∧ s.t 12 = .v false [.bp 12 1 0] ∧ s.t 13 = .v false [.dat (.bool x24.2)] ∧ s.t 14 = .v false [.dat (.int .i64 x107.2)] ∧ s.h 3 = (1, .box 45 [.dat (.str p0.Site), .dat (.str p0.Top), .dat (.str p0.Registration.Site), .dat (.int .i64 p0.Registration.Installing), .dat (.int .i64 p0.Registration.Waiting), .dat (.int .i64 p0.Registration.Active), .old base (.sl (List.map M.Cache.en p0.Caches.Caches)) none, .dat (.str p0.Disk.Base.Name), .dat (.int .i64 p0.Disk.Base.Version), .old base (.sl (List.map M.Store.en p0.Disk.Base.Stores)) none, .old base (.sl (List.map M.IndexDef.en p0.Disk.Base.Unique)) none, .old base (.sl (List.map enB p0.Disk.Log)) none, .dat (.int .i64 p0.Disk.Count), .dat (.str p0.Replica.Base.Name), .old base (.sl (List.map M.Item.en p0.Replica.Base.Items)) none, .dat (.int .i64 p0.Replica.Base.Auto), .dat (.int .i64 p0.Replica.Seen), .dat (.int .i64 p0.Replica.Sync.Outbox.Device), .dat (.int .i64 p0.Replica.Sync.Outbox.Next), .old base (.sl (List.map M.Write.en p0.Replica.Sync.Outbox.Writes)) none, .dat (.int .i64 p0.Replica.Sync.Tries), .dat (.int .i64 p0.Replica.Sync.WaitUntil), .dat (.int .i64 p0.LastUsed), .dat (.bool p0.Persistent)]) ∧ s.h 4 = (1, .box 26 [.old base (.sl (List.map M.Cache.en p1.Caches)) none]) ∧ s.h 5 = (1, .box 23 [.dat (.str p2.Site), .dat (.int .i64 p2.Installing), .dat (.int .i64 p2.Waiting), .dat (.int .i64 p2.Active)]) ∧ s.h 8 = (1, .box 69 [.dat (.str x16.1.Site), .dat (.str x16.1.Top), .dat (.str x16.1.Registration.Site), .dat (.int .i64 x16.1.Registration.Installing), .dat (.int .i64 x16.1.Registration.Waiting), .dat (.int .i64 x16.1.Registration.Active), .row 700041 1, .dat (.str x16.1.Disk.Base.Name), .dat (.int .i64 x16.1.Disk.Base.Version), .row 1000041 1, .row 1100041 1, .row 1200041 1, .dat (.int .i64 x16.1.Disk.Count), .dat (.str x16.1.Replica.Base.Name), .row 1500041 1, .dat (.int .i64 x16.1.Replica.Base.Auto), .dat (.int .i64 x16.1.Replica.Seen), .dat (.int .i64 x16.1.Replica.Sync.Outbox.Device), .dat (.int .i64 x16.1.Replica.Sync.Outbox.Next), .row 2000041 1, .dat (.int .i64 x16.1.Replica.Sync.Tries), .dat (.int .i64 x16.1.Replica.Sync.WaitUntil), .dat (.int .i64 x16.1.LastUsed), .dat (.bool x16.1.Persistent)]) ∧ s.h 12 = (1, .box 69 [.dat (.str x24.1.Site), .dat (.str x24.1.Top), .dat (.str x24.1.Registration.Site), .dat (.int .i64 x24.1.Registration.Installing), .dat (.int .i64 x24.1.Registration.Waiting), .dat (.int .i64 x24.1.Registration.Active), .row 700053 1, .dat (.str x24.1.Disk.Base.Name), .dat (.int .i64 x24.1.Disk.Base.Version), .row 1000053 1, .row 1100053 1, .row 1200053 1, .dat (.int .i64 x24.1.Disk.Count), .dat (.str x24.1.Replica.Base.Name), .row 1500053 1, .dat (.int .i64 x24.1.Replica.Base.Auto), .dat (.int .i64 x24.1.Replica.Seen), .dat (.int .i64 x24.1.Replica.Sync.Outbox.Device), .dat (.int .i64 x24.1.Replica.Sync.Outbox.Next), .row 2000053 1, .dat (.int .i64 x24.1.Replica.Sync.Tries), .dat (.int .i64 x24.1.Replica.Sync.WaitUntil), .dat (.int .i64 x24.1.LastUsed), .dat (.bool x24.1.Persistent)]) ∧ s.h 700041 = (1, .row 144 2 (List.map M.Cache.en x16.1.Caches.Caches) true) ∧ s.h 700053 = (1, .row 144 2 (List.map M.Cache.en x24.1.Caches.Caches) true) ∧ s.h 1000041 = (1, .row 60 3 (List.map M.Store.en x16.1.Disk.Base.Stores) true) ∧ s.h 1000053 = (1, .row 60 3 (List.map M.Store.en x24.1.Disk.Base.Stores) true) ∧ s.h 1100041 = (1, .row 159 2 (List.map M.IndexDef.en x16.1.Disk.Base.Unique) true) ∧ s.h 1100053 = (1, .row 159 2 (List.map M.IndexDef.en x24.1.Disk.Base.Unique) true) ∧ s.h 1200041 = (1, .row 5 1 (List.map enB x16.1.Disk.Log) true) ∧ s.h 1200053 = (1, .row 5 1 (List.map enB x24.1.Disk.Log) true) ∧ s.h 1500041 = (1, .row 177 4 (List.map M.Item.en x16.1.Replica.Base.Items) true) ∧ s.h 1500053 = (1, .row 177 4 (List.map M.Item.en x24.1.Replica.Base.Items) true) ∧ s.h 2000041 = (1, .row 217 7 (List.map M.Write.en x16.1.Replica.Sync.Outbox.Writes) true) ∧ s.h 2000053 = (1, .row 217 7 (List.map M.Write.en x24.1.Replica.Sync.Outbox.Writes) true) ∧ True) ?_
  rintro s109 ⟨f110, f111, f112, f113, f114, f115, f116, f117, f118, f119, f120, f121, f122, f123, f124, f125, f126, f127, f128, f129, f130, f131, f132, f133, f134, _⟩
  rcases bcase (decide (x107.2 < 0)) with b135 | b135
  · replace h := ite_t b135 h
    refine ln ?_
    refine an (lct (sq (ln ?_)))
    refine an (rt ?_)
    cases h
    simp [Ret, TB, EN, *]
  replace h := ite_f b135 h
  obtain ⟨x136, h137, h⟩ := bind_some h
  rcases bcase (!x136) with b138 | b138
  · replace h := ite_t b138 h
    refine ln1 (c12 _ _ _ h137) ?_
    refine an (lct (sq (ln ?_)))
    refine an (rt ?_)
    cases h
    simp [Ret, TB, EN, *]
  replace h := ite_f b138 h
  refine ln1 (c12 _ _ _ h137) ?_
  refine an (lcf (sk (an (sq (ln ?_)))))
  refine an (sq ?_)
  obtain ⟨x139, h140, h⟩ := bind_some h
  refine SW_mark (n := 2) (x := 94) (y := 95) (d := 96) (ag := true) (cs := [.dat (.str x24.1.Site), .dat (.str x24.1.Top), .dat (.str x24.1.Registration.Site), .dat (.int .i64 x24.1.Registration.Installing), .dat (.int .i64 x24.1.Registration.Waiting), .dat (.int .i64 x24.1.Registration.Active), .row 700053 1, .dat (.str x24.1.Disk.Base.Name), .dat (.int .i64 x24.1.Disk.Base.Version), .row 1000053 1, .row 1100053 1, .row 1200053 1, .dat (.int .i64 x24.1.Disk.Count), .dat (.str x24.1.Replica.Base.Name), .row 1500053 1, .dat (.int .i64 x24.1.Replica.Base.Auto), .dat (.int .i64 x24.1.Replica.Seen), .dat (.int .i64 x24.1.Replica.Sync.Outbox.Device), .dat (.int .i64 x24.1.Replica.Sync.Outbox.Next), .row 2000053 1, .dat (.int .i64 x24.1.Replica.Sync.Tries), .dat (.int .i64 x24.1.Replica.Sync.WaitUntil), .dat (.int .i64 x24.1.LastUsed), .dat (.bool x24.1.Persistent)]) (k := 1) [3, 4, 5, 8, 9, 12, 15] [3, 4, 5, 8, 12, 700041, 700053, 1000041, 1000053, 1100041, 1100053, 1200041, 1200053, 1500041, 1500053, 2000041, 2000053] rfl rfl rfl rfl rfl (by decide) ?_ ?_ ?_ (c_laws_markBucket x24.1 1 x139 h140) ?_ (by simp +decide [mkIds]) ?_ ?_ ?_ ?_ (s1 := ?S186) (s3 := ?S187)
  rotate_left 2
  · simp +decide only [LX, E, reduceIte, Nat.reduceAdd, Nat.reduceMul, Int.reduceEq, Int.reduceLT, Bool.not_true, Bool.not_false, L, TB, EN, *, -h]
    exact Is.mk _
  · simp +decide only [LX, F, reduceIte, Nat.reduceAdd, Bool.not_true, Bool.not_false, EN, *, -h]
  · simp +decide only [LX, F, reduceIte, Nat.reduceAdd, Bool.not_true, Bool.not_false, EN, *, -h]
  · refine ⟨_, _, rfl, rfl, rfl, ?_⟩
    refine ⟨_, _, rfl, rfl, rfl, ?_⟩
    refine ⟨_, _, rfl, rfl, rfl, ?_⟩
    refine ⟨_, _, rfl, rfl, rfl, ?_⟩
    refine ⟨_, _, rfl, rfl, rfl, ?_⟩
    refine ⟨_, _, rfl, rfl, rfl, ?_⟩
    refine ⟨144, 2, List.map M.Cache.en x24.1.Caches.Caches, List.map M.Cache.en x139.1, _, _, by simp +decide only [LX, F, reduceIte, Nat.reduceAdd, Bool.not_true, Bool.not_false, EN, *, -h], mapLen (f := M.Cache.en) (fun _ => rfl) _, rfl, rfl, ?_⟩
    refine ⟨_, _, rfl, rfl, rfl, ?_⟩
    refine ⟨_, _, rfl, rfl, rfl, ?_⟩
    refine ⟨60, 3, List.map M.Store.en x24.1.Disk.Base.Stores, List.map M.Store.en x139.2.1, _, _, by simp +decide only [LX, F, reduceIte, Nat.reduceAdd, Bool.not_true, Bool.not_false, EN, *, -h], mapLen (f := M.Store.en) (fun _ => rfl) _, rfl, rfl, ?_⟩
    refine ⟨159, 2, List.map M.IndexDef.en x24.1.Disk.Base.Unique, List.map M.IndexDef.en x139.2.2.1, _, _, by simp +decide only [LX, F, reduceIte, Nat.reduceAdd, Bool.not_true, Bool.not_false, EN, *, -h], mapLen (f := M.IndexDef.en) (fun _ => rfl) _, rfl, rfl, ?_⟩
    refine ⟨5, 1, List.map enB x24.1.Disk.Log, List.map enB x139.2.2.2.1, _, _, by simp +decide only [LX, F, reduceIte, Nat.reduceAdd, Bool.not_true, Bool.not_false, EN, *, -h], mapLen (f := enB) (fun _ => rfl) _, rfl, rfl, ?_⟩
    refine ⟨_, _, rfl, rfl, rfl, ?_⟩
    refine ⟨_, _, rfl, rfl, rfl, ?_⟩
    refine ⟨177, 4, List.map M.Item.en x24.1.Replica.Base.Items, List.map M.Item.en x139.2.2.2.2.1, _, _, by simp +decide only [LX, F, reduceIte, Nat.reduceAdd, Bool.not_true, Bool.not_false, EN, *, -h], mapLen (f := M.Item.en) (fun _ => rfl) _, rfl, rfl, ?_⟩
    refine ⟨_, _, rfl, rfl, rfl, ?_⟩
    refine ⟨_, _, rfl, rfl, rfl, ?_⟩
    refine ⟨_, _, rfl, rfl, rfl, ?_⟩
    refine ⟨_, _, rfl, rfl, rfl, ?_⟩
    refine ⟨217, 7, List.map M.Write.en x24.1.Replica.Sync.Outbox.Writes, List.map M.Write.en x139.2.2.2.2.2.1, _, _, by simp +decide only [LX, F, reduceIte, Nat.reduceAdd, Bool.not_true, Bool.not_false, EN, *, -h], mapLen (f := M.Write.en) (fun _ => rfl) _, rfl, rfl, ?_⟩
    refine ⟨_, _, rfl, rfl, rfl, ?_⟩
    refine ⟨_, _, rfl, rfl, rfl, ?_⟩
    refine ⟨_, _, rfl, rfl, rfl, ?_⟩
    refine ⟨_, _, rfl, rfl, rfl, ?_⟩
    exact ⟨rfl, rfl⟩
  · simp +decide only [LC, LX, F, reduceIte, Nat.reduceAdd, Bool.not_true, Bool.not_false, EN, *, -h]
  · simp +decide only [LC, LX, F, reduceIte, Nat.reduceAdd, Bool.not_true, Bool.not_false, EN, *, -h]
  · simp +decide only [LX, E, reduceIte, Nat.reduceAdd, Nat.reduceMul, Int.reduceEq, Int.reduceLT, Bool.not_true, Bool.not_false, L, TB, EN, *, -h]
    exact Is.mk _
  refine an (sq ?_)
  refine lcu (fun s => s.t 3 = .v false [.bp 3 1 0] ∧ s.t 4 = .v false [.bp 4 1 0] ∧ s.t 5 = .v false [.bp 5 1 0] ∧ s.t 8 = .v false [.bp 8 1 0] ∧ s.t 9 = .v false [.dat (.bool x16.2)] ∧ s.t 12 = .v false [.bp 12 1 0] ∧ s.t 15 = .v false [.dat (.int .i64 x139.2.2.2.2.2.2)] ∧ s.h 3 = (1, .box 45 [.dat (.str p0.Site), .dat (.str p0.Top), .dat (.str p0.Registration.Site), .dat (.int .i64 p0.Registration.Installing), .dat (.int .i64 p0.Registration.Waiting), .dat (.int .i64 p0.Registration.Active), .old base (.sl (List.map M.Cache.en p0.Caches.Caches)) none, .dat (.str p0.Disk.Base.Name), .dat (.int .i64 p0.Disk.Base.Version), .old base (.sl (List.map M.Store.en p0.Disk.Base.Stores)) none, .old base (.sl (List.map M.IndexDef.en p0.Disk.Base.Unique)) none, .old base (.sl (List.map enB p0.Disk.Log)) none, .dat (.int .i64 p0.Disk.Count), .dat (.str p0.Replica.Base.Name), .old base (.sl (List.map M.Item.en p0.Replica.Base.Items)) none, .dat (.int .i64 p0.Replica.Base.Auto), .dat (.int .i64 p0.Replica.Seen), .dat (.int .i64 p0.Replica.Sync.Outbox.Device), .dat (.int .i64 p0.Replica.Sync.Outbox.Next), .old base (.sl (List.map M.Write.en p0.Replica.Sync.Outbox.Writes)) none, .dat (.int .i64 p0.Replica.Sync.Tries), .dat (.int .i64 p0.Replica.Sync.WaitUntil), .dat (.int .i64 p0.LastUsed), .dat (.bool p0.Persistent)]) ∧ s.h 4 = (1, .box 26 [.old base (.sl (List.map M.Cache.en p1.Caches)) none]) ∧ s.h 5 = (1, .box 23 [.dat (.str p2.Site), .dat (.int .i64 p2.Installing), .dat (.int .i64 p2.Waiting), .dat (.int .i64 p2.Active)]) ∧ s.h 8 = (1, .box 69 [.dat (.str x16.1.Site), .dat (.str x16.1.Top), .dat (.str x16.1.Registration.Site), .dat (.int .i64 x16.1.Registration.Installing), .dat (.int .i64 x16.1.Registration.Waiting), .dat (.int .i64 x16.1.Registration.Active), .row 700041 1, .dat (.str x16.1.Disk.Base.Name), .dat (.int .i64 x16.1.Disk.Base.Version), .row 1000041 1, .row 1100041 1, .row 1200041 1, .dat (.int .i64 x16.1.Disk.Count), .dat (.str x16.1.Replica.Base.Name), .row 1500041 1, .dat (.int .i64 x16.1.Replica.Base.Auto), .dat (.int .i64 x16.1.Replica.Seen), .dat (.int .i64 x16.1.Replica.Sync.Outbox.Device), .dat (.int .i64 x16.1.Replica.Sync.Outbox.Next), .row 2000041 1, .dat (.int .i64 x16.1.Replica.Sync.Tries), .dat (.int .i64 x16.1.Replica.Sync.WaitUntil), .dat (.int .i64 x16.1.LastUsed), .dat (.bool x16.1.Persistent)]) ∧ s.h 12 = (1, .box 69 [.dat (.str x24.1.Site), .dat (.str x24.1.Top), .dat (.str x24.1.Registration.Site), .dat (.int .i64 x24.1.Registration.Installing), .dat (.int .i64 x24.1.Registration.Waiting), .dat (.int .i64 x24.1.Registration.Active), .row 700053 1, .dat (.str x24.1.Disk.Base.Name), .dat (.int .i64 x24.1.Disk.Base.Version), .row 1000053 1, .row 1100053 1, .row 1200053 1, .dat (.int .i64 x24.1.Disk.Count), .dat (.str x24.1.Replica.Base.Name), .row 1500053 1, .dat (.int .i64 x24.1.Replica.Base.Auto), .dat (.int .i64 x24.1.Replica.Seen), .dat (.int .i64 x24.1.Replica.Sync.Outbox.Device), .dat (.int .i64 x24.1.Replica.Sync.Outbox.Next), .row 2000053 1, .dat (.int .i64 x24.1.Replica.Sync.Tries), .dat (.int .i64 x24.1.Replica.Sync.WaitUntil), .dat (.int .i64 x24.1.LastUsed), .dat (.bool x24.1.Persistent)]) ∧ s.h 700041 = (1, .row 144 2 (List.map M.Cache.en x16.1.Caches.Caches) true) ∧ s.h 700053 = (1, .row 144 2 (List.map M.Cache.en x139.1) true) ∧ s.h 1000041 = (1, .row 60 3 (List.map M.Store.en x16.1.Disk.Base.Stores) true) ∧ s.h 1000053 = (1, .row 60 3 (List.map M.Store.en x139.2.1) true) ∧ s.h 1100041 = (1, .row 159 2 (List.map M.IndexDef.en x16.1.Disk.Base.Unique) true) ∧ s.h 1100053 = (1, .row 159 2 (List.map M.IndexDef.en x139.2.2.1) true) ∧ s.h 1200041 = (1, .row 5 1 (List.map enB x16.1.Disk.Log) true) ∧ s.h 1200053 = (1, .row 5 1 (List.map enB x139.2.2.2.1) true) ∧ s.h 1500041 = (1, .row 177 4 (List.map M.Item.en x16.1.Replica.Base.Items) true) ∧ s.h 1500053 = (1, .row 177 4 (List.map M.Item.en x139.2.2.2.2.1) true) ∧ s.h 2000041 = (1, .row 217 7 (List.map M.Write.en x16.1.Replica.Sync.Outbox.Writes) true) ∧ s.h 2000053 = (1, .row 217 7 (List.map M.Write.en x139.2.2.2.2.2.1) true) ∧ True) ?_
  rintro s141 ⟨f142, f143, f144, f145, f146, f147, f148, f149, f150, f151, f152, f153, f154, f155, f156, f157, f158, f159, f160, f161, f162, f163, f164, f165, _⟩
  refine ln ?_
  refine an (sq ?_)
  obtain ⟨x166, h167, h⟩ := bind_some h
  refine ln1 (c16 _ _ _ h167) ?_
  refine an (sq (sq (ln ?_)))
  refine an ?_
  rcases bcase (decide (x166 < 0)) with b168 | b168
  · replace h := ite_t b168 h
    refine lct (sq (ln ?_))
    refine an (rt ?_)
    cases h
    simp [Ret, TB, EN, *]
  replace h := ite_f b168 h
  refine lcf (sk (an (sq (sq (ln ?_)))))
  refine an ?_
  rcases bcase (x166 != x139.2.2.2.2.2.2) with b169 | b169
  · replace h := ite_t b169 h
    refine lct (sq (ln ?_))
    refine an (rt ?_)
    cases h
    simp [Ret, TB, EN, *]
  replace h := ite_f b169 h
  refine lcf (sk (an (sq ?_)))
  obtain ⟨x170, h171, h⟩ := bind_some h
  obtain ⟨x172, h173, h⟩ := bind_some h
  obtain ⟨x174, h175, h⟩ := bind_some h
  obtain ⟨x176, h177, h⟩ := bind_some h
  apply SW_runD mixed
  · simp +decide only [LX, E, reduceIte, Nat.reduceAdd, Nat.reduceMul, Bool.not_true, Bool.not_false, L, ti23, ti26, ti45, ti69, EN, b3, b6, b9, b28, b29, b70, b75, b135, b138, f142, f143, f144, f145, f146, f147, f148, f149, f150, f151, f152, f153, f154, f155, f156, f157, f158, f159, f160, f161, f162, f163, f164, f165, b168, b169]
    refine ⟨_, c9 _ _ h171, ?_⟩
    try simp +decide only [LX, E, reduceIte, Nat.reduceAdd, Nat.reduceMul, Bool.not_true, Bool.not_false, L, ti23, ti26, ti45, ti69, EN, b3, b6, b9, b28, b29, b70, b75, b135, b138, f142, f143, f144, f145, f146, f147, f148, f149, f150, f151, f152, f153, f154, f155, f156, f157, f158, f159, f160, f161, f162, f163, f164, f165, b168, b169]
    refine ⟨_, c26 _ _ h173, ?_⟩
    try simp +decide only [LX, E, reduceIte, Nat.reduceAdd, Nat.reduceMul, Bool.not_true, Bool.not_false, L, ti23, ti26, ti45, ti69, EN, b3, b6, b9, b28, b29, b70, b75, b135, b138, f142, f143, f144, f145, f146, f147, f148, f149, f150, f151, f152, f153, f154, f155, f156, f157, f158, f159, f160, f161, f162, f163, f164, f165, b168, b169]
    refine ⟨_, c27 _ _ h175, ?_⟩
    try simp +decide only [LX, E, reduceIte, Nat.reduceAdd, Nat.reduceMul, Bool.not_true, Bool.not_false, L, ti23, ti26, ti45, ti69, EN, b3, b6, b9, b28, b29, b70, b75, b135, b138, f142, f143, f144, f145, f146, f147, f148, f149, f150, f151, f152, f153, f154, f155, f156, f157, f158, f159, f160, f161, f162, f163, f164, f165, b168, b169]
    refine ⟨_, c28 _ _ _ _ h177, ?_⟩
    try simp +decide only [LX, E, reduceIte, Nat.reduceAdd, Nat.reduceMul, Bool.not_true, Bool.not_false, L, ti23, ti26, ti45, ti69, EN, b3, b6, b9, b28, b29, b70, b75, b135, b138, f142, f143, f144, f145, f146, f147, f148, f149, f150, f151, f152, f153, f154, f155, f156, f157, f158, f159, f160, f161, f162, f163, f164, f165, b168, b169]
    exact ⟨.mk (by decide +kernel), Is.mk _⟩
  refine an (sq (sq ?_))
  obtain ⟨x178, h179, h⟩ := bind_some h
  rcases bcase (!x178) with b180 | b180
  · replace h := ite_t b180 h
    refine ln1 (c12 _ _ _ h179) ?_
    refine an (lct (sq (ln ?_)))
    refine an (rt ?_)
    cases h
    simp [Ret, TB, EN, *]
  replace h := ite_f b180 h
  refine ln1 (c12 _ _ _ h179) ?_
  refine an ?_
  rcases bcase (!(x176.2 == x16.2)) with b181 | b181
  · replace h := ite_t b181 h
    refine lct (sq (ln ?_))
    refine an (rt ?_)
    cases h
    simp [Ret, TB, EN, *]
  replace h := ite_f b181 h
  refine lcf (sk (an (sq (ln ?_))))
  refine an (sq ?_)
  obtain ⟨x182, h183, h⟩ := bind_some h
  refine ln1 (c16 _ _ _ h183) ?_
  refine an (sq (sq (ln ?_)))
  refine an ?_
  rcases bcase (decide (x182 < 0)) with b184 | b184
  · replace h := ite_t b184 h
    refine lct (sq (ln ?_))
    refine an (rt ?_)
    cases h
    simp [Ret, TB, EN, *]
  replace h := ite_f b184 h
  refine lcf (sk (an (sq (sq (ln ?_)))))
  refine an ?_
  rcases bcase (x182 != x139.2.2.2.2.2.2) with b185 | b185
  · replace h := ite_t b185 h
    refine lct (sq (ln ?_))
    refine an (rt ?_)
    cases h
    simp [Ret, TB, EN, *]
  replace h := ite_f b185 h
  refine lcf (sk (an (sq (ln ?_))))
  refine an (rt ?_)
  cases h
  simp [Ret, TB, EN, *]

end Go.Proofs.YtmpbibngijnfeaaGreat.gen
