/-
  Helper text: walks: each function's contract out of its model. No conditions beyond those of each contract.
-/
import Derived.Test.YtgemmnkhddlhpaaGreatNewBucketTi
import Derived.Test.YtgemmnkhddlhpaaGreatNewBucketWeq
import Derived.Test.YtgemmnkhddlhpaaGreatNewBucketWheld
import Derived.Test.YtgemmnkhddlhpaaGreatNewBucketWimpl3
import Derived.Test.YtgemmnkhddlhpaaGreatNewBucketWmark
import Derived.Test.YtgemmnkhddlhpaaGreatNewBucketWspec3
namespace Go.Proofs.YtgemmnkhddlhpaaGreat.gen
open Go Go.Sh
set_option linter.unusedVariables false
set_option linter.unusedSimpArgs false
set_option maxRecDepth 20000 in
set_option maxHeartbeats 4000000 in
theorem c_laws_FnExactNewBucket (p0 : ByteArray) (p1 : ByteArray) (p2 : Int) (r : Bool) (h : m_laws_FnExactNewBucket p0 p1 p2 = some r) : SCalls Tryz.prog 3 [(false, [.str p0]), (false, [.str p1]), (false, [.int .i64 p2])] [(false, [.ro (.bool r)])] := by
  unfold m_laws_FnExactNewBucket at h
  refine scallsL (N := 79) (vars := [.tmp 6]) Tryz.func3 rfl rfl rfl (by decide +kernel) (Nat.le_of_ble_eq_true rfl) fun base wd => ?_
  refine sq (ln ?_)
  refine an (sq (sq (ln ?_)))
  refine an ?_
  rcases bcase (decide ((p0.size : Int) > 1048576)) with b1 | b1
  · replace h := ite_t b1 h
    refine lct (sq (ln ?_))
    refine an (rt ?_)
    cases h
    simp [Ret, TB, EN, *]
  replace h := ite_f b1 h
  refine lcf (sk (an (sq (sq (ln ?_)))))
  refine an ?_
  rcases bcase (decide ((p1.size : Int) > 1048576)) with b2 | b2
  · replace h := ite_t b2 h
    refine lct (sq (ln ?_))
    refine an (rt ?_)
    cases h
    simp [Ret, TB, EN, *]
  replace h := ite_f b2 h
  refine lcf (sk (an (sq ?_)))
  obtain ⟨x3, h4, h⟩ := bind_some h
  refine ln1 (c_spec_NewBucket _ _ _ _ h4) ?_
  refine an (sq ?_)
  obtain ⟨x5, h6, h⟩ := bind_some h
  refine ln1 (c_impl_NewBucket _ _ _ _ h6) ?_
  refine an (sq (sq ?_))
  obtain ⟨x7, h8, h⟩ := bind_some h
  rcases bcase (!x7) with b9 | b9
  · replace h := ite_t b9 h
    refine ln1 (c_laws_eqBucket _ _ _ h8) ?_
    refine an (lct (sq (ln ?_)))
    refine an (rt ?_)
    cases h
    simp [Ret, TB, EN, *]
  replace h := ite_f b9 h
  refine ln1 (c_laws_eqBucket _ _ _ h8) ?_
  refine an ?_
  rcases bcase (!(x5.2 == x3.2)) with b10 | b10
  · replace h := ite_t b10 h
    refine lct (sq (ln ?_))
    refine an (rt ?_)
    cases h
    simp [Ret, TB, EN, *]
  replace h := ite_f b10 h
  refine lcf (sk (an (sq (ln ?_))))
  refine an (sq ?_)
  obtain ⟨x11, h12, h⟩ := bind_some h
  refine SW_mark (n := 2) (x := 44) (y := 45) (d := 46) (ag := true) (cs := [.dat (.str x5.1.Site), .dat (.str x5.1.Top), .dat (.str x5.1.Registration.Site), .dat (.int .i64 x5.1.Registration.Installing), .dat (.int .i64 x5.1.Registration.Waiting), .dat (.int .i64 x5.1.Registration.Active), .row 700032 1, .dat (.str x5.1.Disk.Base.Name), .dat (.int .i64 x5.1.Disk.Base.Version), .row 1000032 1, .row 1100032 1, .row 1200032 1, .dat (.int .i64 x5.1.Disk.Count), .dat (.str x5.1.Replica.Base.Name), .row 1500032 1, .dat (.int .i64 x5.1.Replica.Base.Auto), .dat (.int .i64 x5.1.Replica.Seen), .dat (.int .i64 x5.1.Replica.Sync.Outbox.Device), .dat (.int .i64 x5.1.Replica.Sync.Outbox.Next), .row 2000032 1, .dat (.int .i64 x5.1.Replica.Sync.Tries), .dat (.int .i64 x5.1.Replica.Sync.WaitUntil), .dat (.int .i64 x5.1.LastUsed), .dat (.bool x5.1.Persistent)]) (k := 1) [0, 1, 2, 7, 8, 9, 11] [7, 9, 700025, 700032, 1000025, 1000032, 1100025, 1100032, 1200025, 1200032, 1500025, 1500032, 2000025, 2000032] rfl rfl rfl rfl rfl (by decide) ?_ ?_ ?_ (c_laws_markBucket x5.1 1 x11 h12) ?_ (by simp +decide [mkIds]) ?_ ?_ ?_ ?_ (s1 := ?S49) (s3 := ?S50)
  rotate_left 2
  · simp +decide only [LX, E, reduceIte, Nat.reduceAdd, Nat.reduceMul, Int.reduceEq, Int.reduceLT, Bool.not_true, Bool.not_false, L, TB, EN, *, -h]
    exact Is.mk _
  · simp +decide only [LX, F, reduceIte, Nat.reduceAdd, Bool.not_true, Bool.not_false, EN, *, -h]
  · simp +decide only [LX, F, reduceIte, Nat.reduceAdd, Bool.not_true, Bool.not_false, EN, *, -h]
  · refine ⟨_, _, rfl, rfl, rfl, ?_⟩
    refine ⟨_, _, rfl, rfl, rfl, ?_⟩
    refine ⟨_, _, rfl, rfl, rfl, ?_⟩
    refine ⟨_, _, rfl, rfl, rfl, ?_⟩
    refine ⟨_, _, rfl, rfl, rfl, ?_⟩
    refine ⟨_, _, rfl, rfl, rfl, ?_⟩
    refine ⟨297, 2, List.map M.Cache.en x5.1.Caches.Caches, List.map M.Cache.en x11.1, _, _, by simp +decide only [LX, F, reduceIte, Nat.reduceAdd, Bool.not_true, Bool.not_false, EN, *, -h], mapLen (f := M.Cache.en) (fun _ => rfl) _, rfl, rfl, ?_⟩
    refine ⟨_, _, rfl, rfl, rfl, ?_⟩
    refine ⟨_, _, rfl, rfl, rfl, ?_⟩
    refine ⟨36, 3, List.map M.Store.en x5.1.Disk.Base.Stores, List.map M.Store.en x11.2.1, _, _, by simp +decide only [LX, F, reduceIte, Nat.reduceAdd, Bool.not_true, Bool.not_false, EN, *, -h], mapLen (f := M.Store.en) (fun _ => rfl) _, rfl, rfl, ?_⟩
    refine ⟨337, 2, List.map M.IndexDef.en x5.1.Disk.Base.Unique, List.map M.IndexDef.en x11.2.2.1, _, _, by simp +decide only [LX, F, reduceIte, Nat.reduceAdd, Bool.not_true, Bool.not_false, EN, *, -h], mapLen (f := M.IndexDef.en) (fun _ => rfl) _, rfl, rfl, ?_⟩
    refine ⟨5, 1, List.map enB x5.1.Disk.Log, List.map enB x11.2.2.2.1, _, _, by simp +decide only [LX, F, reduceIte, Nat.reduceAdd, Bool.not_true, Bool.not_false, EN, *, -h], mapLen (f := enB) (fun _ => rfl) _, rfl, rfl, ?_⟩
    refine ⟨_, _, rfl, rfl, rfl, ?_⟩
    refine ⟨_, _, rfl, rfl, rfl, ?_⟩
    refine ⟨315, 4, List.map M.Item.en x5.1.Replica.Base.Items, List.map M.Item.en x11.2.2.2.2.1, _, _, by simp +decide only [LX, F, reduceIte, Nat.reduceAdd, Bool.not_true, Bool.not_false, EN, *, -h], mapLen (f := M.Item.en) (fun _ => rfl) _, rfl, rfl, ?_⟩
    refine ⟨_, _, rfl, rfl, rfl, ?_⟩
    refine ⟨_, _, rfl, rfl, rfl, ?_⟩
    refine ⟨_, _, rfl, rfl, rfl, ?_⟩
    refine ⟨_, _, rfl, rfl, rfl, ?_⟩
    refine ⟨261, 7, List.map M.Write.en x5.1.Replica.Sync.Outbox.Writes, List.map M.Write.en x11.2.2.2.2.2.1, _, _, by simp +decide only [LX, F, reduceIte, Nat.reduceAdd, Bool.not_true, Bool.not_false, EN, *, -h], mapLen (f := M.Write.en) (fun _ => rfl) _, rfl, rfl, ?_⟩
    refine ⟨_, _, rfl, rfl, rfl, ?_⟩
    refine ⟨_, _, rfl, rfl, rfl, ?_⟩
    refine ⟨_, _, rfl, rfl, rfl, ?_⟩
    refine ⟨_, _, rfl, rfl, rfl, ?_⟩
    exact ⟨rfl, rfl⟩
  · simp +decide only [LC, LX, F, reduceIte, Nat.reduceAdd, Bool.not_true, Bool.not_false, EN, *, -h]
  · simp +decide only [LC, LX, F, reduceIte, Nat.reduceAdd, Bool.not_true, Bool.not_false, EN, *, -h]
  · simp +decide only [LX, E, reduceIte, Nat.reduceAdd, Nat.reduceMul, Int.reduceEq, Int.reduceLT, Bool.not_true, Bool.not_false, L, TB, EN, *, -h]
    exact Is.mk _
  refine an (sq ?_)
  refine lcu (fun s => s.t 0 = .v false [.dat (.str p0)] ∧ s.t 1 = .v false [.dat (.str p1)] ∧ s.t 2 = .v false [.dat (.int .i64 p2)] ∧ s.t 7 = .v false [.bp 7 1 0] ∧ s.t 8 = .v false [.dat (.bool x3.2)] ∧ s.t 9 = .v false [.bp 9 1 0] ∧ s.t 11 = .v false [.dat (.int .i64 x11.2.2.2.2.2.2)] ∧ s.h 7 = (1, .box 45 [.dat (.str x3.1.Site), .dat (.str x3.1.Top), .dat (.str x3.1.Registration.Site), .dat (.int .i64 x3.1.Registration.Installing), .dat (.int .i64 x3.1.Registration.Waiting), .dat (.int .i64 x3.1.Registration.Active), .row 700025 1, .dat (.str x3.1.Disk.Base.Name), .dat (.int .i64 x3.1.Disk.Base.Version), .row 1000025 1, .row 1100025 1, .row 1200025 1, .dat (.int .i64 x3.1.Disk.Count), .dat (.str x3.1.Replica.Base.Name), .row 1500025 1, .dat (.int .i64 x3.1.Replica.Base.Auto), .dat (.int .i64 x3.1.Replica.Seen), .dat (.int .i64 x3.1.Replica.Sync.Outbox.Device), .dat (.int .i64 x3.1.Replica.Sync.Outbox.Next), .row 2000025 1, .dat (.int .i64 x3.1.Replica.Sync.Tries), .dat (.int .i64 x3.1.Replica.Sync.WaitUntil), .dat (.int .i64 x3.1.LastUsed), .dat (.bool x3.1.Persistent)]) ∧ s.h 9 = (1, .box 45 [.dat (.str x5.1.Site), .dat (.str x5.1.Top), .dat (.str x5.1.Registration.Site), .dat (.int .i64 x5.1.Registration.Installing), .dat (.int .i64 x5.1.Registration.Waiting), .dat (.int .i64 x5.1.Registration.Active), .row 700032 1, .dat (.str x5.1.Disk.Base.Name), .dat (.int .i64 x5.1.Disk.Base.Version), .row 1000032 1, .row 1100032 1, .row 1200032 1, .dat (.int .i64 x5.1.Disk.Count), .dat (.str x5.1.Replica.Base.Name), .row 1500032 1, .dat (.int .i64 x5.1.Replica.Base.Auto), .dat (.int .i64 x5.1.Replica.Seen), .dat (.int .i64 x5.1.Replica.Sync.Outbox.Device), .dat (.int .i64 x5.1.Replica.Sync.Outbox.Next), .row 2000032 1, .dat (.int .i64 x5.1.Replica.Sync.Tries), .dat (.int .i64 x5.1.Replica.Sync.WaitUntil), .dat (.int .i64 x5.1.LastUsed), .dat (.bool x5.1.Persistent)]) ∧ s.h 700025 = (1, .row 297 2 (List.map M.Cache.en x3.1.Caches.Caches) true) ∧ s.h 700032 = (1, .row 297 2 (List.map M.Cache.en x11.1) true) ∧ s.h 1000025 = (1, .row 36 3 (List.map M.Store.en x3.1.Disk.Base.Stores) true) ∧ s.h 1000032 = (1, .row 36 3 (List.map M.Store.en x11.2.1) true) ∧ s.h 1100025 = (1, .row 337 2 (List.map M.IndexDef.en x3.1.Disk.Base.Unique) true) ∧ s.h 1100032 = (1, .row 337 2 (List.map M.IndexDef.en x11.2.2.1) true) ∧ s.h 1200025 = (1, .row 5 1 (List.map enB x3.1.Disk.Log) true) ∧ s.h 1200032 = (1, .row 5 1 (List.map enB x11.2.2.2.1) true) ∧ s.h 1500025 = (1, .row 315 4 (List.map M.Item.en x3.1.Replica.Base.Items) true) ∧ s.h 1500032 = (1, .row 315 4 (List.map M.Item.en x11.2.2.2.2.1) true) ∧ s.h 2000025 = (1, .row 261 7 (List.map M.Write.en x3.1.Replica.Sync.Outbox.Writes) true) ∧ s.h 2000032 = (1, .row 261 7 (List.map M.Write.en x11.2.2.2.2.2.1) true) ∧ True) ?_
  rintro s13 ⟨f14, f15, f16, f17, f18, f19, f20, f21, f22, f23, f24, f25, f26, f27, f28, f29, f30, f31, f32, f33, f34, _⟩
  refine ln ?_
  refine an (sq ?_)
  obtain ⟨x35, h36, h⟩ := bind_some h
  refine ln1 (c_laws_heldBucket _ _ _ h36) ?_
  refine an (sq (sq (ln ?_)))
  refine an ?_
  rcases bcase (decide (x35 < 0)) with b37 | b37
  · replace h := ite_t b37 h
    refine lct (sq (ln ?_))
    refine an (rt ?_)
    cases h
    simp [Ret, TB, EN, *]
  replace h := ite_f b37 h
  refine lcf (sk (an (sq (sq (ln ?_)))))
  refine an ?_
  rcases bcase (x35 != x11.2.2.2.2.2.2) with b38 | b38
  · replace h := ite_t b38 h
    refine lct (sq (ln ?_))
    refine an (rt ?_)
    cases h
    simp [Ret, TB, EN, *]
  replace h := ite_f b38 h
  refine lcf (sk (an (sq ?_)))
  obtain ⟨x39, h40, h⟩ := bind_some h
  refine ln1 (c_impl_NewBucket _ _ _ _ h40) ?_
  refine an (sq (sq ?_))
  obtain ⟨x41, h42, h⟩ := bind_some h
  rcases bcase (!x41) with b43 | b43
  · replace h := ite_t b43 h
    refine ln1 (c_laws_eqBucket _ _ _ h42) ?_
    refine an (lct (sq (ln ?_)))
    refine an (rt ?_)
    cases h
    simp [Ret, TB, EN, *]
  replace h := ite_f b43 h
  refine ln1 (c_laws_eqBucket _ _ _ h42) ?_
  refine an ?_
  rcases bcase (!(x39.2 == x3.2)) with b44 | b44
  · replace h := ite_t b44 h
    refine lct (sq (ln ?_))
    refine an (rt ?_)
    cases h
    simp [Ret, TB, EN, *]
  replace h := ite_f b44 h
  refine lcf (sk (an (sq (ln ?_))))
  refine an (sq ?_)
  obtain ⟨x45, h46, h⟩ := bind_some h
  refine ln1 (c_laws_heldBucket _ _ _ h46) ?_
  refine an (sq (sq (ln ?_)))
  refine an ?_
  rcases bcase (decide (x45 < 0)) with b47 | b47
  · replace h := ite_t b47 h
    refine lct (sq (ln ?_))
    refine an (rt ?_)
    cases h
    simp [Ret, TB, EN, *]
  replace h := ite_f b47 h
  refine lcf (sk (an (sq (sq (ln ?_)))))
  refine an ?_
  rcases bcase (x45 != x11.2.2.2.2.2.2) with b48 | b48
  · replace h := ite_t b48 h
    refine lct (sq (ln ?_))
    refine an (rt ?_)
    cases h
    simp [Ret, TB, EN, *]
  replace h := ite_f b48 h
  refine lcf (sk (an (sq (ln ?_))))
  refine an (rt ?_)
  cases h
  simp [Ret, TB, EN, *]

end Go.Proofs.YtgemmnkhddlhpaaGreat.gen
