/-
  Helper text. No conditions.
-/
import Derived.Test.YtecmnmaaopkdfaaGreatPageLockTi
import Derived.Test.YtecmnmaaopkdfaaGreatPageLockWeq
import Derived.Test.YtecmnmaaopkdfaaGreatPageLockWheld
import Derived.Test.YtecmnmaaopkdfaaGreatPageLockWimpl2
import Derived.Test.YtecmnmaaopkdfaaGreatPageLockWmark2
import Derived.Test.YtecmnmaaopkdfaaGreatPageLockWspec1
import Derived.Test.YtecmnmaaopkdfaaGreatPageLockWsz
import Derived.Test.YtecmnmaaopkdfaaGreatPageLockWto
namespace Go.Proofs.YtecmnmaaopkdfaaGreat.gen
open Go Go.Sh
set_option linter.unusedVariables false
set_option linter.unusedSimpArgs false
set_option maxRecDepth 20000
set_option maxHeartbeats 4000000
set_option maxRecDepth 20000 in
set_option maxHeartbeats 4000000 in
theorem aCO (p0 : M.World) (p1 : Int) (p2 : ByteArray) (p3 : Bool) (r : Bool) (h : mM p0 p1 p2 p3 = some r) : oR Tryz.prog 5 [(true, M.World.en p0), (false, [.int .i64 p1]), (false, [.str p2]), (false, [.bool p3])] [(false, [.ro (.bool r)])] := by
  unfold mM at h
  simp only [M.World.en]
  refine aNA (N := 114) (vars := [.tmp 8]) Tryz.func5 rfl rfl rfl (by decide +kernel) (Nat.le_of_ble_eq_true rfl) fun base wd => ?_
  refine sq (ln ?_)
  refine an (sq (sq (ln ?_)))
  refine an ?_
  rcases dG (decide ((p2.size : Int) > 1048576)) with b1 | b1
  · replace h := bH b1 h
    refine lct (sq (ln ?_))
    refine an (rt ?_)
    cases h
    simp [Ret, TB, EN, *]
  replace h := bI b1 h
  refine lcf (sk (an (sq (ln ?_))))
  refine an (sq ?_)
  obtain ⟨x2, h3, h⟩ := bind_some h
  refine ln1 (c7 _ _ _ h3) ?_
  refine an (sq (sq (ln ?_)))
  refine an ?_
  rcases dG (decide (x2 < 0)) with b4 | b4
  · replace h := bH b4 h
    refine lct (sq (ln ?_))
    refine an (rt ?_)
    cases h
    simp [Ret, TB, EN, *]
  replace h := bI b4 h
  refine lcf (sk (an (sq ?_)))
  obtain ⟨x5, h6, h⟩ := bind_some h
  obtain ⟨x7, h8, h⟩ := bind_some h
  refine ln2 (c9 _ _ h6) (c16 _ _ _ _ _ h8) ?_
  refine an (sq ?_)
  obtain ⟨x9, h10, h⟩ := bind_some h
  refine ln1 (c9 _ _ h10) ?_
  refine an (sq ?_)
  obtain ⟨x11, h12, h⟩ := bind_some h
  refine ln1 (c17 _ _ _ _ _ h12) ?_
  refine an (sq (sq ?_))
  obtain ⟨x13, h14, h⟩ := bind_some h
  rcases dG (!x13) with b15 | b15
  · replace h := bH b15 h
    refine ln1 (c11 _ _ _ h14) ?_
    refine an (lct (sq (ln ?_)))
    refine an (rt ?_)
    cases h
    simp [Ret, TB, EN, *]
  replace h := bI b15 h
  refine ln1 (c11 _ _ _ h14) ?_
  refine an ?_
  rcases dG (!(x11.2 == x7.2)) with b16 | b16
  · replace h := bH b16 h
    refine lct (sq (ln ?_))
    refine an (rt ?_)
    cases h
    simp [Ret, TB, EN, *]
  replace h := bI b16 h
  refine lcf (sk (an (sq (sq ?_))))
  obtain ⟨x17, h18, h⟩ := bind_some h
  obtain ⟨x19, h20, h⟩ := bind_some h
  refine ld2 mixed (c9 _ _ h18) (c11 _ _ _ h20) ?_
  refine an ?_
  rcases dG (!x19) with b21 | b21
  · replace h := bH b21 h
    refine lct (sq (ln ?_))
    refine an (rt ?_)
    cases h
    simp [Ret, TB, EN, *]
  replace h := bI b21 h
  refine lcf (sk (an (sq (ln ?_))))
  refine an (sq ?_)
  obtain ⟨x22, h23, h⟩ := bind_some h
  refine aLU (n := 2) (x := 61) (y := 62) (d := 63) (ag := true) (cs := [.dat (.int .i64 x9.Now), .dat (.bool x9.Online), .dat (.int .i64 x9.Device), .row 400038 1, .row 500038 1, .dat (.int .i64 x9.NextPage), .row 700038 1, .row 800038 1, .row 900038 1, .row 1000038 1]) (k := 1) [1, 2, 3, 4, 10, 11, 13, 14, 15] [4, 10, 13, 400034, 400044, 500034, 500044, 700034, 700044, 800034, 800044, 900034, 900044, 1000034, 1000044] rfl rfl rfl rfl rfl (by decide) ?_ ?_ ?_ (aCL x9 1 x22 h23) ?_ (by simp +decide [zL]) ?_ ?_ ?_ ?_ (s1 := ?S97) (s3 := ?S98)
  rotate_left 2
  · simp +decide only [LX, E, reduceIte, Nat.reduceAdd, Nat.reduceMul, Int.reduceEq, Int.reduceLT, Bool.not_true, Bool.not_false, L, TB, EN, *, -h]
    exact Is.mk _
  · simp +decide only [LX, F, reduceIte, Nat.reduceAdd, Bool.not_true, Bool.not_false, EN, *, -h]
  · simp +decide only [LX, F, reduceIte, Nat.reduceAdd, Bool.not_true, Bool.not_false, EN, *, -h]
  · refine ⟨_, _, rfl, rfl, rfl, ?_⟩
    refine ⟨_, _, rfl, rfl, rfl, ?_⟩
    refine ⟨_, _, rfl, rfl, rfl, ?_⟩
    refine ⟨211, 24, List.map M.aE.en x9.aM.Buckets, List.map M.aE.en x22.1, _, _, by simp +decide only [LX, F, reduceIte, Nat.reduceAdd, Bool.not_true, Bool.not_false, EN, *, -h], aCK (f := M.aE.en) (fun _ => rfl) _, rfl, rfl, ?_⟩
    refine ⟨104, 11, List.map M.bG.en x9.Pages, List.map M.bG.en x22.2.1, _, _, by simp +decide only [LX, F, reduceIte, Nat.reduceAdd, Bool.not_true, Bool.not_false, EN, *, -h], aCK (f := M.bG.en) (fun _ => rfl) _, rfl, rfl, ?_⟩
    refine ⟨_, _, rfl, rfl, rfl, ?_⟩
    refine ⟨186, 4, List.map M.bK.en x9.Locks.Locks, List.map M.bK.en x22.2.2.1, _, _, by simp +decide only [LX, F, reduceIte, Nat.reduceAdd, Bool.not_true, Bool.not_false, EN, *, -h], aCK (f := M.bK.en) (fun _ => rfl) _, rfl, rfl, ?_⟩
    refine ⟨183, 3, List.map M.fD.en x9.Channel.Mails, List.map M.fD.en x22.2.2.2.1, _, _, by simp +decide only [LX, F, reduceIte, Nat.reduceAdd, Bool.not_true, Bool.not_false, EN, *, -h], aCK (f := M.fD.en) (fun _ => rfl) _, rfl, rfl, ?_⟩
    refine ⟨75, 4, List.map M.Site.en x9.Sites, List.map M.Site.en x22.2.2.2.2.1, _, _, by simp +decide only [LX, F, reduceIte, Nat.reduceAdd, Bool.not_true, Bool.not_false, EN, *, -h], aCK (f := M.Site.en) (fun _ => rfl) _, rfl, rfl, ?_⟩
    refine ⟨145, 5, List.map M.Server.en x9.Servers, List.map M.Server.en x22.2.2.2.2.2.1, _, _, by simp +decide only [LX, F, reduceIte, Nat.reduceAdd, Bool.not_true, Bool.not_false, EN, *, -h], aCK (f := M.Server.en) (fun _ => rfl) _, rfl, rfl, ?_⟩
    exact ⟨rfl, rfl⟩
  · simp +decide only [LC, LX, F, reduceIte, Nat.reduceAdd, Bool.not_true, Bool.not_false, EN, *, -h]
  · simp +decide only [LC, LX, F, reduceIte, Nat.reduceAdd, Bool.not_true, Bool.not_false, EN, *, -h]
  · simp +decide only [LX, E, reduceIte, Nat.reduceAdd, Nat.reduceMul, Int.reduceEq, Int.reduceLT, Bool.not_true, Bool.not_false, L, TB, EN, *, -h]
    exact Is.mk _
  refine an (sq (sq ?_))
  refine lcu (fun s => s.t 1 = .v false [.dat (.int .i64 p1)] ∧ s.t 2 = .v false [.dat (.str p2)] ∧ s.t 3 = .v false [.dat (.bool p3)] ∧ s.t 4 = .v false [.bp 4 1 0] ∧ s.t 10 = .v false [.bp 10 1 0] ∧ s.t 11 = .v false [.dat (.bool x7.2)] ∧ s.t 13 = .v false [.bp 13 1 0] ∧ s.t 14 = .v false [.dat (.bool x11.2)] ∧ s.t 15 = .v false [.dat (.int .i64 x22.2.2.2.2.2.2)] ∧ s.h 4 = (1, .box 35 [.dat (.int .i64 p0.Now), .dat (.bool p0.Online), .dat (.int .i64 p0.Device), .old base (.sl (List.map M.aE.en p0.aM.Buckets)), .old base (.sl (List.map M.bG.en p0.Pages)), .dat (.int .i64 p0.NextPage), .old base (.sl (List.map M.bK.en p0.Locks.Locks)), .old base (.sl (List.map M.fD.en p0.Channel.Mails)), .old base (.sl (List.map M.Site.en p0.Sites)), .old base (.sl (List.map M.Server.en p0.Servers))]) ∧ s.h 10 = (1, .box 50 [.dat (.int .i64 x7.1.Now), .dat (.bool x7.1.Online), .dat (.int .i64 x7.1.Device), .row 400034 1, .row 500034 1, .dat (.int .i64 x7.1.NextPage), .row 700034 1, .row 800034 1, .row 900034 1, .row 1000034 1]) ∧ s.h 13 = (1, .box 50 [.dat (.int .i64 x11.1.Now), .dat (.bool x11.1.Online), .dat (.int .i64 x11.1.Device), .row 400044 1, .row 500044 1, .dat (.int .i64 x11.1.NextPage), .row 700044 1, .row 800044 1, .row 900044 1, .row 1000044 1]) ∧ s.h 400034 = (1, .row 211 24 (List.map M.aE.en x7.1.aM.Buckets) true) ∧ s.h 400044 = (1, .row 211 24 (List.map M.aE.en x11.1.aM.Buckets) true) ∧ s.h 500034 = (1, .row 104 11 (List.map M.bG.en x7.1.Pages) true) ∧ s.h 500044 = (1, .row 104 11 (List.map M.bG.en x11.1.Pages) true) ∧ s.h 700034 = (1, .row 186 4 (List.map M.bK.en x7.1.Locks.Locks) true) ∧ s.h 700044 = (1, .row 186 4 (List.map M.bK.en x11.1.Locks.Locks) true) ∧ s.h 800034 = (1, .row 183 3 (List.map M.fD.en x7.1.Channel.Mails) true) ∧ s.h 800044 = (1, .row 183 3 (List.map M.fD.en x11.1.Channel.Mails) true) ∧ s.h 900034 = (1, .row 75 4 (List.map M.Site.en x7.1.Sites) true) ∧ s.h 900044 = (1, .row 75 4 (List.map M.Site.en x11.1.Sites) true) ∧ s.h 1000034 = (1, .row 145 5 (List.map M.Server.en x7.1.Servers) true) ∧ s.h 1000044 = (1, .row 145 5 (List.map M.Server.en x11.1.Servers) true) ∧ True) ?_
  rintro s24 ⟨f25, f26, f27, f28, f29, f30, f31, f32, f33, f34, f35, f36, f37, f38, f39, f40, f41, f42, f43, f44, f45, f46, f47, f48, _⟩
  rcases dG (decide (x22.2.2.2.2.2.2 < 0)) with b49 | b49
  · replace h := bH b49 h
    refine ln ?_
    refine an (lct (sq (ln ?_)))
    refine an (rt ?_)
    cases h
    simp [Ret, TB, EN, *]
  replace h := bI b49 h
  obtain ⟨x50, h51, h⟩ := bind_some h
  rcases dG (!x50) with b52 | b52
  · replace h := bH b52 h
    refine ln1 (c11 _ _ _ h51) ?_
    refine an (lct (sq (ln ?_)))
    refine an (rt ?_)
    cases h
    simp [Ret, TB, EN, *]
  replace h := bI b52 h
  refine ln1 (c11 _ _ _ h51) ?_
  refine an (lcf (sk (an (sq (ln ?_)))))
  refine an (sq ?_)
  obtain ⟨x53, h54, h⟩ := bind_some h
  refine aLU (n := 2) (x := 77) (y := 78) (d := 79) (ag := true) (cs := [.dat (.int .i64 x11.1.Now), .dat (.bool x11.1.Online), .dat (.int .i64 x11.1.Device), .row 400044 1, .row 500044 1, .dat (.int .i64 x11.1.NextPage), .row 700044 1, .row 800044 1, .row 900044 1, .row 1000044 1]) (k := 1) [1, 2, 3, 4, 10, 11, 13, 16] [4, 10, 13, 400034, 400044, 500034, 500044, 700034, 700044, 800034, 800044, 900034, 900044, 1000034, 1000044] rfl rfl rfl rfl rfl (by decide) ?_ ?_ ?_ (aCL x11.1 1 x53 h54) ?_ (by simp +decide [zL]) ?_ ?_ ?_ ?_ (s1 := ?S95) (s3 := ?S96)
  rotate_left 2
  · simp +decide only [LX, E, reduceIte, Nat.reduceAdd, Nat.reduceMul, Int.reduceEq, Int.reduceLT, Bool.not_true, Bool.not_false, L, TB, EN, *, -h]
    exact Is.mk _
  · simp +decide only [LX, F, reduceIte, Nat.reduceAdd, Bool.not_true, Bool.not_false, EN, *, -h]
  · simp +decide only [LX, F, reduceIte, Nat.reduceAdd, Bool.not_true, Bool.not_false, EN, *, -h]
  · refine ⟨_, _, rfl, rfl, rfl, ?_⟩
    refine ⟨_, _, rfl, rfl, rfl, ?_⟩
    refine ⟨_, _, rfl, rfl, rfl, ?_⟩
    refine ⟨211, 24, List.map M.aE.en x11.1.aM.Buckets, List.map M.aE.en x53.1, _, _, by simp +decide only [LX, F, reduceIte, Nat.reduceAdd, Bool.not_true, Bool.not_false, EN, *, -h], aCK (f := M.aE.en) (fun _ => rfl) _, rfl, rfl, ?_⟩
    refine ⟨104, 11, List.map M.bG.en x11.1.Pages, List.map M.bG.en x53.2.1, _, _, by simp +decide only [LX, F, reduceIte, Nat.reduceAdd, Bool.not_true, Bool.not_false, EN, *, -h], aCK (f := M.bG.en) (fun _ => rfl) _, rfl, rfl, ?_⟩
    refine ⟨_, _, rfl, rfl, rfl, ?_⟩
    refine ⟨186, 4, List.map M.bK.en x11.1.Locks.Locks, List.map M.bK.en x53.2.2.1, _, _, by simp +decide only [LX, F, reduceIte, Nat.reduceAdd, Bool.not_true, Bool.not_false, EN, *, -h], aCK (f := M.bK.en) (fun _ => rfl) _, rfl, rfl, ?_⟩
    refine ⟨183, 3, List.map M.fD.en x11.1.Channel.Mails, List.map M.fD.en x53.2.2.2.1, _, _, by simp +decide only [LX, F, reduceIte, Nat.reduceAdd, Bool.not_true, Bool.not_false, EN, *, -h], aCK (f := M.fD.en) (fun _ => rfl) _, rfl, rfl, ?_⟩
    refine ⟨75, 4, List.map M.Site.en x11.1.Sites, List.map M.Site.en x53.2.2.2.2.1, _, _, by simp +decide only [LX, F, reduceIte, Nat.reduceAdd, Bool.not_true, Bool.not_false, EN, *, -h], aCK (f := M.Site.en) (fun _ => rfl) _, rfl, rfl, ?_⟩
    refine ⟨145, 5, List.map M.Server.en x11.1.Servers, List.map M.Server.en x53.2.2.2.2.2.1, _, _, by simp +decide only [LX, F, reduceIte, Nat.reduceAdd, Bool.not_true, Bool.not_false, EN, *, -h], aCK (f := M.Server.en) (fun _ => rfl) _, rfl, rfl, ?_⟩
    exact ⟨rfl, rfl⟩
  · simp +decide only [LC, LX, F, reduceIte, Nat.reduceAdd, Bool.not_true, Bool.not_false, EN, *, -h]
  · simp +decide only [LC, LX, F, reduceIte, Nat.reduceAdd, Bool.not_true, Bool.not_false, EN, *, -h]
  · simp +decide only [LX, E, reduceIte, Nat.reduceAdd, Nat.reduceMul, Int.reduceEq, Int.reduceLT, Bool.not_true, Bool.not_false, L, TB, EN, *, -h]
    exact Is.mk _
  refine an (sq ?_)
  refine lcu (fun s => s.t 1 = .v false [.dat (.int .i64 p1)] ∧ s.t 2 = .v false [.dat (.str p2)] ∧ s.t 3 = .v false [.dat (.bool p3)] ∧ s.t 4 = .v false [.bp 4 1 0] ∧ s.t 10 = .v false [.bp 10 1 0] ∧ s.t 11 = .v false [.dat (.bool x7.2)] ∧ s.t 13 = .v false [.bp 13 1 0] ∧ s.t 16 = .v false [.dat (.int .i64 x53.2.2.2.2.2.2)] ∧ s.h 4 = (1, .box 35 [.dat (.int .i64 p0.Now), .dat (.bool p0.Online), .dat (.int .i64 p0.Device), .old base (.sl (List.map M.aE.en p0.aM.Buckets)), .old base (.sl (List.map M.bG.en p0.Pages)), .dat (.int .i64 p0.NextPage), .old base (.sl (List.map M.bK.en p0.Locks.Locks)), .old base (.sl (List.map M.fD.en p0.Channel.Mails)), .old base (.sl (List.map M.Site.en p0.Sites)), .old base (.sl (List.map M.Server.en p0.Servers))]) ∧ s.h 10 = (1, .box 50 [.dat (.int .i64 x7.1.Now), .dat (.bool x7.1.Online), .dat (.int .i64 x7.1.Device), .row 400034 1, .row 500034 1, .dat (.int .i64 x7.1.NextPage), .row 700034 1, .row 800034 1, .row 900034 1, .row 1000034 1]) ∧ s.h 13 = (1, .box 50 [.dat (.int .i64 x11.1.Now), .dat (.bool x11.1.Online), .dat (.int .i64 x11.1.Device), .row 400044 1, .row 500044 1, .dat (.int .i64 x11.1.NextPage), .row 700044 1, .row 800044 1, .row 900044 1, .row 1000044 1]) ∧ s.h 400034 = (1, .row 211 24 (List.map M.aE.en x7.1.aM.Buckets) true) ∧ s.h 400044 = (1, .row 211 24 (List.map M.aE.en x53.1) true) ∧ s.h 500034 = (1, .row 104 11 (List.map M.bG.en x7.1.Pages) true) ∧ s.h 500044 = (1, .row 104 11 (List.map M.bG.en x53.2.1) true) ∧ s.h 700034 = (1, .row 186 4 (List.map M.bK.en x7.1.Locks.Locks) true) ∧ s.h 700044 = (1, .row 186 4 (List.map M.bK.en x53.2.2.1) true) ∧ s.h 800034 = (1, .row 183 3 (List.map M.fD.en x7.1.Channel.Mails) true) ∧ s.h 800044 = (1, .row 183 3 (List.map M.fD.en x53.2.2.2.1) true) ∧ s.h 900034 = (1, .row 75 4 (List.map M.Site.en x7.1.Sites) true) ∧ s.h 900044 = (1, .row 75 4 (List.map M.Site.en x53.2.2.2.2.1) true) ∧ s.h 1000034 = (1, .row 145 5 (List.map M.Server.en x7.1.Servers) true) ∧ s.h 1000044 = (1, .row 145 5 (List.map M.Server.en x53.2.2.2.2.2.1) true) ∧ True) ?_
  rintro s55 ⟨f56, f57, f58, f59, f60, f61, f62, f63, f64, f65, f66, f67, f68, f69, f70, f71, f72, f73, f74, f75, f76, f77, f78, _⟩
  refine ln ?_
  refine an (sq ?_)
  obtain ⟨x79, h80, h⟩ := bind_some h
  refine ln1 (c13 _ _ _ h80) ?_
  refine an (sq (sq (ln ?_)))
  refine an ?_
  rcases dG (decide (x79 < 0)) with b81 | b81
  · replace h := bH b81 h
    refine lct (sq (ln ?_))
    refine an (rt ?_)
    cases h
    simp [Ret, TB, EN, *]
  replace h := bI b81 h
  refine lcf (sk (an (sq (sq (ln ?_)))))
  refine an ?_
  rcases dG (x79 != x53.2.2.2.2.2.2) with b82 | b82
  · replace h := bH b82 h
    refine lct (sq (ln ?_))
    refine an (rt ?_)
    cases h
    simp [Ret, TB, EN, *]
  replace h := bI b82 h
  refine lcf (sk (an (sq ?_)))
  obtain ⟨x83, h84, h⟩ := bind_some h
  obtain ⟨x85, h86, h⟩ := bind_some h
  refine ln2 (c9 _ _ h84) (c17 _ _ _ _ _ h86) ?_
  refine an (sq (sq ?_))
  obtain ⟨x87, h88, h⟩ := bind_some h
  rcases dG (!x87) with b89 | b89
  · replace h := bH b89 h
    refine ln1 (c11 _ _ _ h88) ?_
    refine an (lct (sq (ln ?_)))
    refine an (rt ?_)
    cases h
    simp [Ret, TB, EN, *]
  replace h := bI b89 h
  refine ln1 (c11 _ _ _ h88) ?_
  refine an ?_
  rcases dG (!(x85.2 == x7.2)) with b90 | b90
  · replace h := bH b90 h
    refine lct (sq (ln ?_))
    refine an (rt ?_)
    cases h
    simp [Ret, TB, EN, *]
  replace h := bI b90 h
  refine lcf (sk (an (sq (ln ?_))))
  refine an (sq ?_)
  obtain ⟨x91, h92, h⟩ := bind_some h
  refine ln1 (c13 _ _ _ h92) ?_
  refine an (sq (sq (ln ?_)))
  refine an ?_
  rcases dG (decide (x91 < 0)) with b93 | b93
  · replace h := bH b93 h
    refine lct (sq (ln ?_))
    refine an (rt ?_)
    cases h
    simp [Ret, TB, EN, *]
  replace h := bI b93 h
  refine lcf (sk (an (sq (sq (ln ?_)))))
  refine an ?_
  rcases dG (x91 != x53.2.2.2.2.2.2) with b94 | b94
  · replace h := bH b94 h
    refine lct (sq (ln ?_))
    refine an (rt ?_)
    cases h
    simp [Ret, TB, EN, *]
  replace h := bI b94 h
  refine lcf (sk (an (sq (ln ?_))))
  refine an (rt ?_)
  cases h
  simp [Ret, TB, EN, *]
end Go.Proofs.YtecmnmaaopkdfaaGreat.gen
