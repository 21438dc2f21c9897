/-
  Helper text. No conditions.
-/
import Derived.Test.YtecmnmaaopkdfaaGreatPageSendTi
import Derived.Test.YtecmnmaaopkdfaaGreatPageSendWeq
import Derived.Test.YtecmnmaaopkdfaaGreatPageSendWheld
import Derived.Test.YtecmnmaaopkdfaaGreatPageSendWimpl2
import Derived.Test.YtecmnmaaopkdfaaGreatPageSendWmark2
import Derived.Test.YtecmnmaaopkdfaaGreatPageSendWspec1
import Derived.Test.YtecmnmaaopkdfaaGreatPageSendWsz
import Derived.Test.YtecmnmaaopkdfaaGreatPageSendWto
namespace Go.Proofs.YtecmnmaaopkdfaaGreat.gen
open Go Go.Sh
set_option linter.unusedVariables false
set_option linter.unusedSimpArgs false
set_option maxRecDepth 20000
set_option maxHeartbeats 4000000
set_option maxRecDepth 20000 in
set_option maxHeartbeats 4000000 in
theorem aCL (p0 : M.World) (p1 : Int) (p2 : Int) (r : Bool) (h : mI p0 p1 p2 = some r) : qQ Tryz.prog 4 [(true, M.World.en p0), (false, [.int .i64 p1]), (false, [.int .i64 p2])] [(false, [.ro (.bool r)])] := by
  unfold mI at h
  simp only [M.World.en]
  refine aNJ (N := 106) (vars := [.tmp 6]) Tryz.func4 rfl rfl rfl (by decide +kernel) (Nat.le_of_ble_eq_true rfl) fun base wd => ?_
  refine sq (ln ?_)
  refine an (sq (ln ?_))
  refine an (sq ?_)
  obtain ⟨x1, h2, h⟩ := bind_some h
  refine ln1 (c7 _ _ _ h2) ?_
  refine an (sq (sq (ln ?_)))
  refine an ?_
  rcases dX (decide (x1 < 0)) with b3 | b3
  · replace h := bJ b3 h
    refine lct (sq (ln ?_))
    refine an (rt ?_)
    cases h
    simp [Ret, TB, EN, *]
  replace h := bI b3 h
  refine lcf (sk (an (sq ?_)))
  obtain ⟨x4, h5, h⟩ := bind_some h
  obtain ⟨x6, h7, h⟩ := bind_some h
  refine ln2 (c9 _ _ h5) (c14 _ _ _ _ h7) ?_
  refine an (sq ?_)
  obtain ⟨x8, h9, h⟩ := bind_some h
  refine ln1 (c9 _ _ h9) ?_
  refine an (sq ?_)
  obtain ⟨x10, h11, h⟩ := bind_some h
  refine ln1 (c15 _ _ _ _ h11) ?_
  refine an (sq (sq ?_))
  obtain ⟨x12, h13, h⟩ := bind_some h
  rcases dX (!x12) with b14 | b14
  · replace h := bJ b14 h
    refine ln1 (c11 _ _ _ h13) ?_
    refine an (lct (sq (ln ?_)))
    refine an (rt ?_)
    cases h
    simp [Ret, TB, EN, *]
  replace h := bI b14 h
  refine ln1 (c11 _ _ _ h13) ?_
  refine an ?_
  rcases dX (x10.2 != x6.2) with b15 | b15
  · replace h := bJ b15 h
    refine lct (sq (ln ?_))
    refine an (rt ?_)
    cases h
    simp [Ret, TB, EN, *]
  replace h := bI b15 h
  refine lcf (sk (an (sq (sq ?_))))
  obtain ⟨x16, h17, h⟩ := bind_some h
  obtain ⟨x18, h19, h⟩ := bind_some h
  refine ld2 mixed (c9 _ _ h17) (c11 _ _ _ h19) ?_
  refine an ?_
  rcases dX (!x18) with b20 | b20
  · replace h := bJ b20 h
    refine lct (sq (ln ?_))
    refine an (rt ?_)
    cases h
    simp [Ret, TB, EN, *]
  replace h := bI b20 h
  refine lcf (sk (an (sq (ln ?_))))
  refine an (sq ?_)
  obtain ⟨x21, h22, h⟩ := bind_some h
  refine aLT (n := 2) (x := 54) (y := 55) (d := 56) (ag := true) (cs := [.dat (.int .i64 x8.Now), .dat (.bool x8.Online), .dat (.int .i64 x8.Device), .row 400032 1, .row 500032 1, .dat (.int .i64 x8.NextPage), .row 700032 1, .row 800032 1, .row 900032 1, .row 1000032 1]) (k := 1) [1, 2, 3, 8, 9, 11, 12, 13] [3, 8, 11, 400028, 400037, 500028, 500037, 700028, 700037, 800028, 800037, 900028, 900037, 1000028, 1000037] rfl rfl rfl rfl rfl (by decide) ?_ ?_ ?_ (aCB x8 1 x21 h22) ?_ (by simp +decide [zK]) ?_ ?_ ?_ ?_ (s1 := ?S94) (s3 := ?S95)
  rotate_left 2
  · simp +decide only [LX, E, reduceIte, Nat.reduceAdd, Nat.reduceMul, Int.reduceEq, Int.reduceLT, Bool.not_true, Bool.not_false, L, TB, EN, *, -h]
    exact Is.mk _
  · simp +decide only [LX, F, reduceIte, Nat.reduceAdd, Bool.not_true, Bool.not_false, EN, *, -h]
  · simp +decide only [LX, F, reduceIte, Nat.reduceAdd, Bool.not_true, Bool.not_false, EN, *, -h]
  · refine ⟨_, _, rfl, rfl, rfl, ?_⟩
    refine ⟨_, _, rfl, rfl, rfl, ?_⟩
    refine ⟨_, _, rfl, rfl, rfl, ?_⟩
    refine ⟨211, 24, List.map M.aE.en x8.aK.Buckets, List.map M.aE.en x21.1, _, _, by simp +decide only [LX, F, reduceIte, Nat.reduceAdd, Bool.not_true, Bool.not_false, EN, *, -h], aCF (f := M.aE.en) (fun _ => rfl) _, rfl, rfl, ?_⟩
    refine ⟨104, 11, List.map M.bF.en x8.Pages, List.map M.bF.en x21.2.1, _, _, by simp +decide only [LX, F, reduceIte, Nat.reduceAdd, Bool.not_true, Bool.not_false, EN, *, -h], aCF (f := M.bF.en) (fun _ => rfl) _, rfl, rfl, ?_⟩
    refine ⟨_, _, rfl, rfl, rfl, ?_⟩
    refine ⟨186, 4, List.map M.bZ.en x8.Locks.Locks, List.map M.bZ.en x21.2.2.1, _, _, by simp +decide only [LX, F, reduceIte, Nat.reduceAdd, Bool.not_true, Bool.not_false, EN, *, -h], aCF (f := M.bZ.en) (fun _ => rfl) _, rfl, rfl, ?_⟩
    refine ⟨183, 3, List.map M.cN.en x8.Channel.Mails, List.map M.cN.en x21.2.2.2.1, _, _, by simp +decide only [LX, F, reduceIte, Nat.reduceAdd, Bool.not_true, Bool.not_false, EN, *, -h], aCF (f := M.cN.en) (fun _ => rfl) _, rfl, rfl, ?_⟩
    refine ⟨75, 4, List.map M.Site.en x8.Sites, List.map M.Site.en x21.2.2.2.2.1, _, _, by simp +decide only [LX, F, reduceIte, Nat.reduceAdd, Bool.not_true, Bool.not_false, EN, *, -h], aCF (f := M.Site.en) (fun _ => rfl) _, rfl, rfl, ?_⟩
    refine ⟨145, 5, List.map M.Server.en x8.Servers, List.map M.Server.en x21.2.2.2.2.2.1, _, _, by simp +decide only [LX, F, reduceIte, Nat.reduceAdd, Bool.not_true, Bool.not_false, EN, *, -h], aCF (f := M.Server.en) (fun _ => rfl) _, rfl, rfl, ?_⟩
    exact ⟨rfl, rfl⟩
  · simp +decide only [LC, LX, F, reduceIte, Nat.reduceAdd, Bool.not_true, Bool.not_false, EN, *, -h]
  · simp +decide only [LC, LX, F, reduceIte, Nat.reduceAdd, Bool.not_true, Bool.not_false, EN, *, -h]
  · simp +decide only [LX, E, reduceIte, Nat.reduceAdd, Nat.reduceMul, Int.reduceEq, Int.reduceLT, Bool.not_true, Bool.not_false, L, TB, EN, *, -h]
    exact Is.mk _
  refine an (sq (sq ?_))
  refine lcu (fun s => s.t 1 = .v false [.dat (.int .i64 p1)] ∧ s.t 2 = .v false [.dat (.int .i64 p2)] ∧ s.t 3 = .v false [.bp 3 1 0] ∧ s.t 8 = .v false [.bp 8 1 0] ∧ s.t 9 = .v false [.dat (.int .i64 x6.2)] ∧ s.t 11 = .v false [.bp 11 1 0] ∧ s.t 12 = .v false [.dat (.int .i64 x10.2)] ∧ s.t 13 = .v false [.dat (.int .i64 x21.2.2.2.2.2.2)] ∧ s.h 3 = (1, .box 35 [.dat (.int .i64 p0.Now), .dat (.bool p0.Online), .dat (.int .i64 p0.Device), .old base (.sl (List.map M.aE.en p0.aK.Buckets)), .old base (.sl (List.map M.bF.en p0.Pages)), .dat (.int .i64 p0.NextPage), .old base (.sl (List.map M.bZ.en p0.Locks.Locks)), .old base (.sl (List.map M.cN.en p0.Channel.Mails)), .old base (.sl (List.map M.Site.en p0.Sites)), .old base (.sl (List.map M.Server.en p0.Servers))]) ∧ s.h 8 = (1, .box 50 [.dat (.int .i64 x6.1.Now), .dat (.bool x6.1.Online), .dat (.int .i64 x6.1.Device), .row 400028 1, .row 500028 1, .dat (.int .i64 x6.1.NextPage), .row 700028 1, .row 800028 1, .row 900028 1, .row 1000028 1]) ∧ s.h 11 = (1, .box 50 [.dat (.int .i64 x10.1.Now), .dat (.bool x10.1.Online), .dat (.int .i64 x10.1.Device), .row 400037 1, .row 500037 1, .dat (.int .i64 x10.1.NextPage), .row 700037 1, .row 800037 1, .row 900037 1, .row 1000037 1]) ∧ s.h 400028 = (1, .row 211 24 (List.map M.aE.en x6.1.aK.Buckets) true) ∧ s.h 400037 = (1, .row 211 24 (List.map M.aE.en x10.1.aK.Buckets) true) ∧ s.h 500028 = (1, .row 104 11 (List.map M.bF.en x6.1.Pages) true) ∧ s.h 500037 = (1, .row 104 11 (List.map M.bF.en x10.1.Pages) true) ∧ s.h 700028 = (1, .row 186 4 (List.map M.bZ.en x6.1.Locks.Locks) true) ∧ s.h 700037 = (1, .row 186 4 (List.map M.bZ.en x10.1.Locks.Locks) true) ∧ s.h 800028 = (1, .row 183 3 (List.map M.cN.en x6.1.Channel.Mails) true) ∧ s.h 800037 = (1, .row 183 3 (List.map M.cN.en x10.1.Channel.Mails) true) ∧ s.h 900028 = (1, .row 75 4 (List.map M.Site.en x6.1.Sites) true) ∧ s.h 900037 = (1, .row 75 4 (List.map M.Site.en x10.1.Sites) true) ∧ s.h 1000028 = (1, .row 145 5 (List.map M.Server.en x6.1.Servers) true) ∧ s.h 1000037 = (1, .row 145 5 (List.map M.Server.en x10.1.Servers) true) ∧ True) ?_
  rintro s23 ⟨f24, f25, f26, f27, f28, f29, f30, f31, f32, f33, f34, f35, f36, f37, f38, f39, f40, f41, f42, f43, f44, f45, f46, _⟩
  rcases dX (decide (x21.2.2.2.2.2.2 < 0)) with b47 | b47
  · replace h := bJ b47 h
    refine ln ?_
    refine an (lct (sq (ln ?_)))
    refine an (rt ?_)
    cases h
    simp [Ret, TB, EN, *]
  replace h := bI b47 h
  obtain ⟨x48, h49, h⟩ := bind_some h
  rcases dX (!x48) with b50 | b50
  · replace h := bJ b50 h
    refine ln1 (c11 _ _ _ h49) ?_
    refine an (lct (sq (ln ?_)))
    refine an (rt ?_)
    cases h
    simp [Ret, TB, EN, *]
  replace h := bI b50 h
  refine ln1 (c11 _ _ _ h49) ?_
  refine an (lcf (sk (an (sq (ln ?_)))))
  refine an (sq ?_)
  obtain ⟨x51, h52, h⟩ := bind_some h
  refine aLT (n := 2) (x := 70) (y := 71) (d := 72) (ag := true) (cs := [.dat (.int .i64 x10.1.Now), .dat (.bool x10.1.Online), .dat (.int .i64 x10.1.Device), .row 400037 1, .row 500037 1, .dat (.int .i64 x10.1.NextPage), .row 700037 1, .row 800037 1, .row 900037 1, .row 1000037 1]) (k := 1) [1, 2, 3, 8, 9, 11, 14] [3, 8, 11, 400028, 400037, 500028, 500037, 700028, 700037, 800028, 800037, 900028, 900037, 1000028, 1000037] rfl rfl rfl rfl rfl (by decide) ?_ ?_ ?_ (aCB x10.1 1 x51 h52) ?_ (by simp +decide [zK]) ?_ ?_ ?_ ?_ (s1 := ?S92) (s3 := ?S93)
  rotate_left 2
  · simp +decide only [LX, E, reduceIte, Nat.reduceAdd, Nat.reduceMul, Int.reduceEq, Int.reduceLT, Bool.not_true, Bool.not_false, L, TB, EN, *, -h]
    exact Is.mk _
  · simp +decide only [LX, F, reduceIte, Nat.reduceAdd, Bool.not_true, Bool.not_false, EN, *, -h]
  · simp +decide only [LX, F, reduceIte, Nat.reduceAdd, Bool.not_true, Bool.not_false, EN, *, -h]
  · refine ⟨_, _, rfl, rfl, rfl, ?_⟩
    refine ⟨_, _, rfl, rfl, rfl, ?_⟩
    refine ⟨_, _, rfl, rfl, rfl, ?_⟩
    refine ⟨211, 24, List.map M.aE.en x10.1.aK.Buckets, List.map M.aE.en x51.1, _, _, by simp +decide only [LX, F, reduceIte, Nat.reduceAdd, Bool.not_true, Bool.not_false, EN, *, -h], aCF (f := M.aE.en) (fun _ => rfl) _, rfl, rfl, ?_⟩
    refine ⟨104, 11, List.map M.bF.en x10.1.Pages, List.map M.bF.en x51.2.1, _, _, by simp +decide only [LX, F, reduceIte, Nat.reduceAdd, Bool.not_true, Bool.not_false, EN, *, -h], aCF (f := M.bF.en) (fun _ => rfl) _, rfl, rfl, ?_⟩
    refine ⟨_, _, rfl, rfl, rfl, ?_⟩
    refine ⟨186, 4, List.map M.bZ.en x10.1.Locks.Locks, List.map M.bZ.en x51.2.2.1, _, _, by simp +decide only [LX, F, reduceIte, Nat.reduceAdd, Bool.not_true, Bool.not_false, EN, *, -h], aCF (f := M.bZ.en) (fun _ => rfl) _, rfl, rfl, ?_⟩
    refine ⟨183, 3, List.map M.cN.en x10.1.Channel.Mails, List.map M.cN.en x51.2.2.2.1, _, _, by simp +decide only [LX, F, reduceIte, Nat.reduceAdd, Bool.not_true, Bool.not_false, EN, *, -h], aCF (f := M.cN.en) (fun _ => rfl) _, rfl, rfl, ?_⟩
    refine ⟨75, 4, List.map M.Site.en x10.1.Sites, List.map M.Site.en x51.2.2.2.2.1, _, _, by simp +decide only [LX, F, reduceIte, Nat.reduceAdd, Bool.not_true, Bool.not_false, EN, *, -h], aCF (f := M.Site.en) (fun _ => rfl) _, rfl, rfl, ?_⟩
    refine ⟨145, 5, List.map M.Server.en x10.1.Servers, List.map M.Server.en x51.2.2.2.2.2.1, _, _, by simp +decide only [LX, F, reduceIte, Nat.reduceAdd, Bool.not_true, Bool.not_false, EN, *, -h], aCF (f := M.Server.en) (fun _ => rfl) _, rfl, rfl, ?_⟩
    exact ⟨rfl, rfl⟩
  · simp +decide only [LC, LX, F, reduceIte, Nat.reduceAdd, Bool.not_true, Bool.not_false, EN, *, -h]
  · simp +decide only [LC, LX, F, reduceIte, Nat.reduceAdd, Bool.not_true, Bool.not_false, EN, *, -h]
  · simp +decide only [LX, E, reduceIte, Nat.reduceAdd, Nat.reduceMul, Int.reduceEq, Int.reduceLT, Bool.not_true, Bool.not_false, L, TB, EN, *, -h]
    exact Is.mk _
  refine an (sq ?_)
  refine lcu (fun s => s.t 1 = .v false [.dat (.int .i64 p1)] ∧ s.t 2 = .v false [.dat (.int .i64 p2)] ∧ s.t 3 = .v false [.bp 3 1 0] ∧ s.t 8 = .v false [.bp 8 1 0] ∧ s.t 9 = .v false [.dat (.int .i64 x6.2)] ∧ s.t 11 = .v false [.bp 11 1 0] ∧ s.t 14 = .v false [.dat (.int .i64 x51.2.2.2.2.2.2)] ∧ s.h 3 = (1, .box 35 [.dat (.int .i64 p0.Now), .dat (.bool p0.Online), .dat (.int .i64 p0.Device), .old base (.sl (List.map M.aE.en p0.aK.Buckets)), .old base (.sl (List.map M.bF.en p0.Pages)), .dat (.int .i64 p0.NextPage), .old base (.sl (List.map M.bZ.en p0.Locks.Locks)), .old base (.sl (List.map M.cN.en p0.Channel.Mails)), .old base (.sl (List.map M.Site.en p0.Sites)), .old base (.sl (List.map M.Server.en p0.Servers))]) ∧ s.h 8 = (1, .box 50 [.dat (.int .i64 x6.1.Now), .dat (.bool x6.1.Online), .dat (.int .i64 x6.1.Device), .row 400028 1, .row 500028 1, .dat (.int .i64 x6.1.NextPage), .row 700028 1, .row 800028 1, .row 900028 1, .row 1000028 1]) ∧ s.h 11 = (1, .box 50 [.dat (.int .i64 x10.1.Now), .dat (.bool x10.1.Online), .dat (.int .i64 x10.1.Device), .row 400037 1, .row 500037 1, .dat (.int .i64 x10.1.NextPage), .row 700037 1, .row 800037 1, .row 900037 1, .row 1000037 1]) ∧ s.h 400028 = (1, .row 211 24 (List.map M.aE.en x6.1.aK.Buckets) true) ∧ s.h 400037 = (1, .row 211 24 (List.map M.aE.en x51.1) true) ∧ s.h 500028 = (1, .row 104 11 (List.map M.bF.en x6.1.Pages) true) ∧ s.h 500037 = (1, .row 104 11 (List.map M.bF.en x51.2.1) true) ∧ s.h 700028 = (1, .row 186 4 (List.map M.bZ.en x6.1.Locks.Locks) true) ∧ s.h 700037 = (1, .row 186 4 (List.map M.bZ.en x51.2.2.1) true) ∧ s.h 800028 = (1, .row 183 3 (List.map M.cN.en x6.1.Channel.Mails) true) ∧ s.h 800037 = (1, .row 183 3 (List.map M.cN.en x51.2.2.2.1) true) ∧ s.h 900028 = (1, .row 75 4 (List.map M.Site.en x6.1.Sites) true) ∧ s.h 900037 = (1, .row 75 4 (List.map M.Site.en x51.2.2.2.2.1) true) ∧ s.h 1000028 = (1, .row 145 5 (List.map M.Server.en x6.1.Servers) true) ∧ s.h 1000037 = (1, .row 145 5 (List.map M.Server.en x51.2.2.2.2.2.1) true) ∧ True) ?_
  rintro s53 ⟨f54, f55, f56, f57, f58, f59, f60, f61, f62, f63, f64, f65, f66, f67, f68, f69, f70, f71, f72, f73, f74, f75, _⟩
  refine ln ?_
  refine an (sq ?_)
  obtain ⟨x76, h77, h⟩ := bind_some h
  refine ln1 (c13 _ _ _ h77) ?_
  refine an (sq (sq (ln ?_)))
  refine an ?_
  rcases dX (decide (x76 < 0)) with b78 | b78
  · replace h := bJ b78 h
    refine lct (sq (ln ?_))
    refine an (rt ?_)
    cases h
    simp [Ret, TB, EN, *]
  replace h := bI b78 h
  refine lcf (sk (an (sq (sq (ln ?_)))))
  refine an ?_
  rcases dX (x76 != x51.2.2.2.2.2.2) with b79 | b79
  · replace h := bJ b79 h
    refine lct (sq (ln ?_))
    refine an (rt ?_)
    cases h
    simp [Ret, TB, EN, *]
  replace h := bI b79 h
  refine lcf (sk (an (sq ?_)))
  obtain ⟨x80, h81, h⟩ := bind_some h
  obtain ⟨x82, h83, h⟩ := bind_some h
  refine ln2 (c9 _ _ h81) (c15 _ _ _ _ h83) ?_
  refine an (sq (sq ?_))
  obtain ⟨x84, h85, h⟩ := bind_some h
  rcases dX (!x84) with b86 | b86
  · replace h := bJ b86 h
    refine ln1 (c11 _ _ _ h85) ?_
    refine an (lct (sq (ln ?_)))
    refine an (rt ?_)
    cases h
    simp [Ret, TB, EN, *]
  replace h := bI b86 h
  refine ln1 (c11 _ _ _ h85) ?_
  refine an ?_
  rcases dX (x82.2 != x6.2) with b87 | b87
  · replace h := bJ b87 h
    refine lct (sq (ln ?_))
    refine an (rt ?_)
    cases h
    simp [Ret, TB, EN, *]
  replace h := bI b87 h
  refine lcf (sk (an (sq (ln ?_))))
  refine an (sq ?_)
  obtain ⟨x88, h89, h⟩ := bind_some h
  refine ln1 (c13 _ _ _ h89) ?_
  refine an (sq (sq (ln ?_)))
  refine an ?_
  rcases dX (decide (x88 < 0)) with b90 | b90
  · replace h := bJ b90 h
    refine lct (sq (ln ?_))
    refine an (rt ?_)
    cases h
    simp [Ret, TB, EN, *]
  replace h := bI b90 h
  refine lcf (sk (an (sq (sq (ln ?_)))))
  refine an ?_
  rcases dX (x88 != x51.2.2.2.2.2.2) with b91 | b91
  · replace h := bJ b91 h
    refine lct (sq (ln ?_))
    refine an (rt ?_)
    cases h
    simp [Ret, TB, EN, *]
  replace h := bI b91 h
  refine lcf (sk (an (sq (ln ?_))))
  refine an (rt ?_)
  cases h
  simp [Ret, TB, EN, *]
end Go.Proofs.YtecmnmaaopkdfaaGreat.gen
