/-
  Helper text. No conditions.
-/
import Derived.Test.YtecmnmaaopkdfaaGreatReleaseSiteTi
import Derived.Test.YtecmnmaaopkdfaaGreatReleaseSiteWeq
import Derived.Test.YtecmnmaaopkdfaaGreatReleaseSiteWheld
import Derived.Test.YtecmnmaaopkdfaaGreatReleaseSiteWimpl2
import Derived.Test.YtecmnmaaopkdfaaGreatReleaseSiteWmark2
import Derived.Test.YtecmnmaaopkdfaaGreatReleaseSiteWspec1
import Derived.Test.YtecmnmaaopkdfaaGreatReleaseSiteWsz
import Derived.Test.YtecmnmaaopkdfaaGreatReleaseSiteWto
namespace Go.Proofs.YtecmnmaaopkdfaaGreat.gen
open Go Go.Sh
set_option linter.unusedVariables false
set_option linter.unusedSimpArgs false
set_option maxRecDepth 20000
set_option maxHeartbeats 4000000
set_option maxRecDepth 20000 in
set_option maxHeartbeats 4000000 in
theorem aBX (p0 : M.World) (p1 : ByteArray) (r : Bool) (h : jD p0 p1 = some r) : tB Tryz.prog 3 [(true, M.World.en p0), (false, [.str p1])] [(false, [.ro (.bool r)])] := by
  unfold jD at h
  simp only [M.World.en]
  refine aMi (N := 104) (vars := [.tmp 4]) Tryz.func3 rfl rfl rfl (by decide +kernel) (Nat.le_of_ble_eq_true rfl) fun base wd => ?_
  refine sq (ln ?_)
  refine an (sq (sq (ln ?_)))
  refine an ?_
  rcases eF (decide ((p1.size : Int) > 1048576)) with b1 | b1
  · replace h := bI b1 h
    refine lct (sq (ln ?_))
    refine an (rt ?_)
    cases h
    simp [Ret, TB, EN, *]
  replace h := bH b1 h
  refine lcf (sk (an (sq (ln ?_))))
  refine an (sq ?_)
  obtain ⟨x2, h3, h⟩ := bind_some h
  refine ln1 (c7 _ _ _ h3) ?_
  refine an (sq (sq (ln ?_)))
  refine an ?_
  rcases eF (decide (x2 < 0)) with b4 | b4
  · replace h := bI b4 h
    refine lct (sq (ln ?_))
    refine an (rt ?_)
    cases h
    simp [Ret, TB, EN, *]
  replace h := bH b4 h
  refine lcf (sk (an (sq ?_)))
  obtain ⟨x5, h6, h⟩ := bind_some h
  obtain ⟨x7, h8, h⟩ := bind_some h
  refine ln2 (c9 _ _ h6) (c8 _ _ _ h8) ?_
  refine an (sq ?_)
  obtain ⟨x9, h10, h⟩ := bind_some h
  refine ln1 (c9 _ _ h10) ?_
  refine an (sq ?_)
  obtain ⟨x11, h12, h⟩ := bind_some h
  refine ln1 (c10 _ _ _ h12) ?_
  refine an (sq (sq ?_))
  obtain ⟨x13, h14, h⟩ := bind_some h
  rcases eF (!x13) with b15 | b15
  · replace h := bI b15 h
    refine ln1 (c11 _ _ _ h14) ?_
    refine an (lct (sq (ln ?_)))
    refine an (rt ?_)
    cases h
    simp [Ret, TB, EN, *]
  replace h := bH b15 h
  refine ln1 (c11 _ _ _ h14) ?_
  refine an ?_
  rcases eF (!(x11.2 == x7.2)) with b16 | b16
  · replace h := bI b16 h
    refine lct (sq (ln ?_))
    refine an (rt ?_)
    cases h
    simp [Ret, TB, EN, *]
  replace h := bH b16 h
  refine lcf (sk (an (sq (sq ?_))))
  obtain ⟨x17, h18, h⟩ := bind_some h
  obtain ⟨x19, h20, h⟩ := bind_some h
  refine ld2 mixed (c9 _ _ h18) (c11 _ _ _ h20) ?_
  refine an ?_
  rcases eF (!x19) with b21 | b21
  · replace h := bI b21 h
    refine lct (sq (ln ?_))
    refine an (rt ?_)
    cases h
    simp [Ret, TB, EN, *]
  replace h := bH b21 h
  refine lcf (sk (an (sq (ln ?_))))
  refine an (sq ?_)
  obtain ⟨x22, h23, h⟩ := bind_some h
  refine aKx (n := 2) (x := 53) (y := 54) (d := 55) (ag := true) (cs := [.dat (.int .i64 x9.Now), .dat (.bool x9.Online), .dat (.int .i64 x9.Device), .row 400032 1, .row 500032 1, .dat (.int .i64 x9.NextPage), .row 700032 1, .row 800032 1, .row 900032 1, .row 1000032 1]) (k := 1) [1, 2, 6, 7, 9, 10, 11] [2, 6, 9, 400028, 400036, 500028, 500036, 700028, 700036, 800028, 800036, 900028, 900036, 1000028, 1000036] rfl rfl rfl rfl rfl (by decide) ?_ ?_ ?_ (aB2 x9 1 x22 h23) ?_ (by simp +decide [yX]) ?_ ?_ ?_ ?_ (s1 := ?S93) (s3 := ?S94)
  rotate_left 2
  · simp +decide only [LX, E, reduceIte, Nat.reduceAdd, Nat.reduceMul, Int.reduceEq, Int.reduceLT, Bool.not_true, Bool.not_false, L, TB, EN, *, -h]
    exact Is.mk _
  · simp +decide only [LX, F, reduceIte, Nat.reduceAdd, Bool.not_true, Bool.not_false, EN, *, -h]
  · simp +decide only [LX, F, reduceIte, Nat.reduceAdd, Bool.not_true, Bool.not_false, EN, *, -h]
  · refine ⟨_, _, rfl, rfl, rfl, ?_⟩
    refine ⟨_, _, rfl, rfl, rfl, ?_⟩
    refine ⟨_, _, rfl, rfl, rfl, ?_⟩
    refine ⟨211, 24, List.map M.aE.en x9.aK.Buckets, List.map M.aE.en x22.1, _, _, by simp +decide only [LX, F, reduceIte, Nat.reduceAdd, Bool.not_true, Bool.not_false, EN, *, -h], aB5 (f := M.aE.en) (fun _ => rfl) _, rfl, rfl, ?_⟩
    refine ⟨104, 11, List.map M.bJ.en x9.Pages, List.map M.bJ.en x22.2.1, _, _, by simp +decide only [LX, F, reduceIte, Nat.reduceAdd, Bool.not_true, Bool.not_false, EN, *, -h], aB5 (f := M.bJ.en) (fun _ => rfl) _, rfl, rfl, ?_⟩
    refine ⟨_, _, rfl, rfl, rfl, ?_⟩
    refine ⟨186, 4, List.map M.bY.en x9.Locks.Locks, List.map M.bY.en x22.2.2.1, _, _, by simp +decide only [LX, F, reduceIte, Nat.reduceAdd, Bool.not_true, Bool.not_false, EN, *, -h], aB5 (f := M.bY.en) (fun _ => rfl) _, rfl, rfl, ?_⟩
    refine ⟨183, 3, List.map M.fA.en x9.Channel.Mails, List.map M.fA.en x22.2.2.2.1, _, _, by simp +decide only [LX, F, reduceIte, Nat.reduceAdd, Bool.not_true, Bool.not_false, EN, *, -h], aB5 (f := M.fA.en) (fun _ => rfl) _, rfl, rfl, ?_⟩
    refine ⟨75, 4, List.map M.Site.en x9.Sites, List.map M.Site.en x22.2.2.2.2.1, _, _, by simp +decide only [LX, F, reduceIte, Nat.reduceAdd, Bool.not_true, Bool.not_false, EN, *, -h], aB5 (f := M.Site.en) (fun _ => rfl) _, rfl, rfl, ?_⟩
    refine ⟨145, 5, List.map M.Server.en x9.Servers, List.map M.Server.en x22.2.2.2.2.2.1, _, _, by simp +decide only [LX, F, reduceIte, Nat.reduceAdd, Bool.not_true, Bool.not_false, EN, *, -h], aB5 (f := M.Server.en) (fun _ => rfl) _, rfl, rfl, ?_⟩
    exact ⟨rfl, rfl⟩
  · simp +decide only [LC, LX, F, reduceIte, Nat.reduceAdd, Bool.not_true, Bool.not_false, EN, *, -h]
  · simp +decide only [LC, LX, F, reduceIte, Nat.reduceAdd, Bool.not_true, Bool.not_false, EN, *, -h]
  · simp +decide only [LX, E, reduceIte, Nat.reduceAdd, Nat.reduceMul, Int.reduceEq, Int.reduceLT, Bool.not_true, Bool.not_false, L, TB, EN, *, -h]
    exact Is.mk _
  refine an (sq (sq ?_))
  refine lcu (fun s => s.t 1 = .v false [.dat (.str p1)] ∧ s.t 2 = .v false [.bp 2 1 0] ∧ s.t 6 = .v false [.bp 6 1 0] ∧ s.t 7 = .v false [.dat (.bool x7.2)] ∧ s.t 9 = .v false [.bp 9 1 0] ∧ s.t 10 = .v false [.dat (.bool x11.2)] ∧ s.t 11 = .v false [.dat (.int .i64 x22.2.2.2.2.2.2)] ∧ s.h 2 = (1, .box 35 [.dat (.int .i64 p0.Now), .dat (.bool p0.Online), .dat (.int .i64 p0.Device), .old base (.sl (List.map M.aE.en p0.aK.Buckets)), .old base (.sl (List.map M.bJ.en p0.Pages)), .dat (.int .i64 p0.NextPage), .old base (.sl (List.map M.bY.en p0.Locks.Locks)), .old base (.sl (List.map M.fA.en p0.Channel.Mails)), .old base (.sl (List.map M.Site.en p0.Sites)), .old base (.sl (List.map M.Server.en p0.Servers))]) ∧ s.h 6 = (1, .box 50 [.dat (.int .i64 x7.1.Now), .dat (.bool x7.1.Online), .dat (.int .i64 x7.1.Device), .row 400028 1, .row 500028 1, .dat (.int .i64 x7.1.NextPage), .row 700028 1, .row 800028 1, .row 900028 1, .row 1000028 1]) ∧ s.h 9 = (1, .box 50 [.dat (.int .i64 x11.1.Now), .dat (.bool x11.1.Online), .dat (.int .i64 x11.1.Device), .row 400036 1, .row 500036 1, .dat (.int .i64 x11.1.NextPage), .row 700036 1, .row 800036 1, .row 900036 1, .row 1000036 1]) ∧ s.h 400028 = (1, .row 211 24 (List.map M.aE.en x7.1.aK.Buckets) true) ∧ s.h 400036 = (1, .row 211 24 (List.map M.aE.en x11.1.aK.Buckets) true) ∧ s.h 500028 = (1, .row 104 11 (List.map M.bJ.en x7.1.Pages) true) ∧ s.h 500036 = (1, .row 104 11 (List.map M.bJ.en x11.1.Pages) true) ∧ s.h 700028 = (1, .row 186 4 (List.map M.bY.en x7.1.Locks.Locks) true) ∧ s.h 700036 = (1, .row 186 4 (List.map M.bY.en x11.1.Locks.Locks) true) ∧ s.h 800028 = (1, .row 183 3 (List.map M.fA.en x7.1.Channel.Mails) true) ∧ s.h 800036 = (1, .row 183 3 (List.map M.fA.en x11.1.Channel.Mails) true) ∧ s.h 900028 = (1, .row 75 4 (List.map M.Site.en x7.1.Sites) true) ∧ s.h 900036 = (1, .row 75 4 (List.map M.Site.en x11.1.Sites) true) ∧ s.h 1000028 = (1, .row 145 5 (List.map M.Server.en x7.1.Servers) true) ∧ s.h 1000036 = (1, .row 145 5 (List.map M.Server.en x11.1.Servers) true) ∧ True) ?_
  rintro s24 ⟨f25, f26, f27, f28, f29, f30, f31, f32, f33, f34, f35, f36, f37, f38, f39, f40, f41, f42, f43, f44, f45, f46, _⟩
  rcases eF (decide (x22.2.2.2.2.2.2 < 0)) with b47 | b47
  · replace h := bI b47 h
    refine ln ?_
    refine an (lct (sq (ln ?_)))
    refine an (rt ?_)
    cases h
    simp [Ret, TB, EN, *]
  replace h := bH b47 h
  obtain ⟨x48, h49, h⟩ := bind_some h
  rcases eF (!x48) with b50 | b50
  · replace h := bI b50 h
    refine ln1 (c11 _ _ _ h49) ?_
    refine an (lct (sq (ln ?_)))
    refine an (rt ?_)
    cases h
    simp [Ret, TB, EN, *]
  replace h := bH b50 h
  refine ln1 (c11 _ _ _ h49) ?_
  refine an (lcf (sk (an (sq (ln ?_)))))
  refine an (sq ?_)
  obtain ⟨x51, h52, h⟩ := bind_some h
  refine aKx (n := 2) (x := 69) (y := 70) (d := 71) (ag := true) (cs := [.dat (.int .i64 x11.1.Now), .dat (.bool x11.1.Online), .dat (.int .i64 x11.1.Device), .row 400036 1, .row 500036 1, .dat (.int .i64 x11.1.NextPage), .row 700036 1, .row 800036 1, .row 900036 1, .row 1000036 1]) (k := 1) [1, 2, 6, 7, 9, 12] [2, 6, 9, 400028, 400036, 500028, 500036, 700028, 700036, 800028, 800036, 900028, 900036, 1000028, 1000036] rfl rfl rfl rfl rfl (by decide) ?_ ?_ ?_ (aB2 x11.1 1 x51 h52) ?_ (by simp +decide [yX]) ?_ ?_ ?_ ?_ (s1 := ?S91) (s3 := ?S92)
  rotate_left 2
  · simp +decide only [LX, E, reduceIte, Nat.reduceAdd, Nat.reduceMul, Int.reduceEq, Int.reduceLT, Bool.not_true, Bool.not_false, L, TB, EN, *, -h]
    exact Is.mk _
  · simp +decide only [LX, F, reduceIte, Nat.reduceAdd, Bool.not_true, Bool.not_false, EN, *, -h]
  · simp +decide only [LX, F, reduceIte, Nat.reduceAdd, Bool.not_true, Bool.not_false, EN, *, -h]
  · refine ⟨_, _, rfl, rfl, rfl, ?_⟩
    refine ⟨_, _, rfl, rfl, rfl, ?_⟩
    refine ⟨_, _, rfl, rfl, rfl, ?_⟩
    refine ⟨211, 24, List.map M.aE.en x11.1.aK.Buckets, List.map M.aE.en x51.1, _, _, by simp +decide only [LX, F, reduceIte, Nat.reduceAdd, Bool.not_true, Bool.not_false, EN, *, -h], aB5 (f := M.aE.en) (fun _ => rfl) _, rfl, rfl, ?_⟩
    refine ⟨104, 11, List.map M.bJ.en x11.1.Pages, List.map M.bJ.en x51.2.1, _, _, by simp +decide only [LX, F, reduceIte, Nat.reduceAdd, Bool.not_true, Bool.not_false, EN, *, -h], aB5 (f := M.bJ.en) (fun _ => rfl) _, rfl, rfl, ?_⟩
    refine ⟨_, _, rfl, rfl, rfl, ?_⟩
    refine ⟨186, 4, List.map M.bY.en x11.1.Locks.Locks, List.map M.bY.en x51.2.2.1, _, _, by simp +decide only [LX, F, reduceIte, Nat.reduceAdd, Bool.not_true, Bool.not_false, EN, *, -h], aB5 (f := M.bY.en) (fun _ => rfl) _, rfl, rfl, ?_⟩
    refine ⟨183, 3, List.map M.fA.en x11.1.Channel.Mails, List.map M.fA.en x51.2.2.2.1, _, _, by simp +decide only [LX, F, reduceIte, Nat.reduceAdd, Bool.not_true, Bool.not_false, EN, *, -h], aB5 (f := M.fA.en) (fun _ => rfl) _, rfl, rfl, ?_⟩
    refine ⟨75, 4, List.map M.Site.en x11.1.Sites, List.map M.Site.en x51.2.2.2.2.1, _, _, by simp +decide only [LX, F, reduceIte, Nat.reduceAdd, Bool.not_true, Bool.not_false, EN, *, -h], aB5 (f := M.Site.en) (fun _ => rfl) _, rfl, rfl, ?_⟩
    refine ⟨145, 5, List.map M.Server.en x11.1.Servers, List.map M.Server.en x51.2.2.2.2.2.1, _, _, by simp +decide only [LX, F, reduceIte, Nat.reduceAdd, Bool.not_true, Bool.not_false, EN, *, -h], aB5 (f := M.Server.en) (fun _ => rfl) _, rfl, rfl, ?_⟩
    exact ⟨rfl, rfl⟩
  · simp +decide only [LC, LX, F, reduceIte, Nat.reduceAdd, Bool.not_true, Bool.not_false, EN, *, -h]
  · simp +decide only [LC, LX, F, reduceIte, Nat.reduceAdd, Bool.not_true, Bool.not_false, EN, *, -h]
  · simp +decide only [LX, E, reduceIte, Nat.reduceAdd, Nat.reduceMul, Int.reduceEq, Int.reduceLT, Bool.not_true, Bool.not_false, L, TB, EN, *, -h]
    exact Is.mk _
  refine an (sq ?_)
  refine lcu (fun s => s.t 1 = .v false [.dat (.str p1)] ∧ s.t 2 = .v false [.bp 2 1 0] ∧ s.t 6 = .v false [.bp 6 1 0] ∧ s.t 7 = .v false [.dat (.bool x7.2)] ∧ s.t 9 = .v false [.bp 9 1 0] ∧ s.t 12 = .v false [.dat (.int .i64 x51.2.2.2.2.2.2)] ∧ s.h 2 = (1, .box 35 [.dat (.int .i64 p0.Now), .dat (.bool p0.Online), .dat (.int .i64 p0.Device), .old base (.sl (List.map M.aE.en p0.aK.Buckets)), .old base (.sl (List.map M.bJ.en p0.Pages)), .dat (.int .i64 p0.NextPage), .old base (.sl (List.map M.bY.en p0.Locks.Locks)), .old base (.sl (List.map M.fA.en p0.Channel.Mails)), .old base (.sl (List.map M.Site.en p0.Sites)), .old base (.sl (List.map M.Server.en p0.Servers))]) ∧ s.h 6 = (1, .box 50 [.dat (.int .i64 x7.1.Now), .dat (.bool x7.1.Online), .dat (.int .i64 x7.1.Device), .row 400028 1, .row 500028 1, .dat (.int .i64 x7.1.NextPage), .row 700028 1, .row 800028 1, .row 900028 1, .row 1000028 1]) ∧ s.h 9 = (1, .box 50 [.dat (.int .i64 x11.1.Now), .dat (.bool x11.1.Online), .dat (.int .i64 x11.1.Device), .row 400036 1, .row 500036 1, .dat (.int .i64 x11.1.NextPage), .row 700036 1, .row 800036 1, .row 900036 1, .row 1000036 1]) ∧ s.h 400028 = (1, .row 211 24 (List.map M.aE.en x7.1.aK.Buckets) true) ∧ s.h 400036 = (1, .row 211 24 (List.map M.aE.en x51.1) true) ∧ s.h 500028 = (1, .row 104 11 (List.map M.bJ.en x7.1.Pages) true) ∧ s.h 500036 = (1, .row 104 11 (List.map M.bJ.en x51.2.1) true) ∧ s.h 700028 = (1, .row 186 4 (List.map M.bY.en x7.1.Locks.Locks) true) ∧ s.h 700036 = (1, .row 186 4 (List.map M.bY.en x51.2.2.1) true) ∧ s.h 800028 = (1, .row 183 3 (List.map M.fA.en x7.1.Channel.Mails) true) ∧ s.h 800036 = (1, .row 183 3 (List.map M.fA.en x51.2.2.2.1) true) ∧ s.h 900028 = (1, .row 75 4 (List.map M.Site.en x7.1.Sites) true) ∧ s.h 900036 = (1, .row 75 4 (List.map M.Site.en x51.2.2.2.2.1) true) ∧ s.h 1000028 = (1, .row 145 5 (List.map M.Server.en x7.1.Servers) true) ∧ s.h 1000036 = (1, .row 145 5 (List.map M.Server.en x51.2.2.2.2.2.1) true) ∧ True) ?_
  rintro s53 ⟨f54, f55, f56, f57, f58, f59, f60, f61, f62, f63, f64, f65, f66, f67, f68, f69, f70, f71, f72, f73, f74, _⟩
  refine ln ?_
  refine an (sq ?_)
  obtain ⟨x75, h76, h⟩ := bind_some h
  refine ln1 (c13 _ _ _ h76) ?_
  refine an (sq (sq (ln ?_)))
  refine an ?_
  rcases eF (decide (x75 < 0)) with b77 | b77
  · replace h := bI b77 h
    refine lct (sq (ln ?_))
    refine an (rt ?_)
    cases h
    simp [Ret, TB, EN, *]
  replace h := bH b77 h
  refine lcf (sk (an (sq (sq (ln ?_)))))
  refine an ?_
  rcases eF (x75 != x51.2.2.2.2.2.2) with b78 | b78
  · replace h := bI b78 h
    refine lct (sq (ln ?_))
    refine an (rt ?_)
    cases h
    simp [Ret, TB, EN, *]
  replace h := bH b78 h
  refine lcf (sk (an (sq ?_)))
  obtain ⟨x79, h80, h⟩ := bind_some h
  obtain ⟨x81, h82, h⟩ := bind_some h
  refine ln2 (c9 _ _ h80) (c10 _ _ _ h82) ?_
  refine an (sq (sq ?_))
  obtain ⟨x83, h84, h⟩ := bind_some h
  rcases eF (!x83) with b85 | b85
  · replace h := bI b85 h
    refine ln1 (c11 _ _ _ h84) ?_
    refine an (lct (sq (ln ?_)))
    refine an (rt ?_)
    cases h
    simp [Ret, TB, EN, *]
  replace h := bH b85 h
  refine ln1 (c11 _ _ _ h84) ?_
  refine an ?_
  rcases eF (!(x81.2 == x7.2)) with b86 | b86
  · replace h := bI b86 h
    refine lct (sq (ln ?_))
    refine an (rt ?_)
    cases h
    simp [Ret, TB, EN, *]
  replace h := bH b86 h
  refine lcf (sk (an (sq (ln ?_))))
  refine an (sq ?_)
  obtain ⟨x87, h88, h⟩ := bind_some h
  refine ln1 (c13 _ _ _ h88) ?_
  refine an (sq (sq (ln ?_)))
  refine an ?_
  rcases eF (decide (x87 < 0)) with b89 | b89
  · replace h := bI b89 h
    refine lct (sq (ln ?_))
    refine an (rt ?_)
    cases h
    simp [Ret, TB, EN, *]
  replace h := bH b89 h
  refine lcf (sk (an (sq (sq (ln ?_)))))
  refine an ?_
  rcases eF (x87 != x51.2.2.2.2.2.2) with b90 | b90
  · replace h := bI b90 h
    refine lct (sq (ln ?_))
    refine an (rt ?_)
    cases h
    simp [Ret, TB, EN, *]
  replace h := bH b90 h
  refine lcf (sk (an (sq (ln ?_))))
  refine an (rt ?_)
  cases h
  simp [Ret, TB, EN, *]
end Go.Proofs.YtecmnmaaopkdfaaGreat.gen
