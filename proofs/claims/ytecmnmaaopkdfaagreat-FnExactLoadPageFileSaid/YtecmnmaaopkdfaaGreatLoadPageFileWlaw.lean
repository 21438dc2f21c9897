/-
  Helper text. No conditions.
-/
import Derived.Test.YtecmnmaaopkdfaaGreatLoadPageFileTi
import Derived.Test.YtecmnmaaopkdfaaGreatLoadPageFileWeq
import Derived.Test.YtecmnmaaopkdfaaGreatLoadPageFileWheld
import Derived.Test.YtecmnmaaopkdfaaGreatLoadPageFileWimpl2
import Derived.Test.YtecmnmaaopkdfaaGreatLoadPageFileWmark2
import Derived.Test.YtecmnmaaopkdfaaGreatLoadPageFileWspec1
import Derived.Test.YtecmnmaaopkdfaaGreatLoadPageFileWsz
import Derived.Test.YtecmnmaaopkdfaaGreatLoadPageFileWto
namespace Go.Proofs.YtecmnmaaopkdfaaGreat.gen
open Go Go.Sh
set_option linter.unusedVariables false
set_option linter.unusedSimpArgs false
set_option maxRecDepth 20000
set_option maxHeartbeats 4000000
set_option maxRecDepth 20000 in
set_option maxHeartbeats 4000000 in
theorem aB5 (p0 : M.World) (p1 : Int) (p2 : ByteArray) (r : Bool) (h : jG p0 p1 p2 = some r) : rU Tryz.prog 6 [(true, M.World.en p0), (false, [.int .i64 p1]), (false, [.str p2])] [(false, [.ro (.bool r)])] := by
  unfold jG at h
  simp only [M.World.en]
  refine aOJ (N := 109) (vars := [.tmp 6]) Tryz.func6 rfl rfl rfl (by decide +kernel) (Nat.le_of_ble_eq_true rfl) fun base wd => ?_
  refine sq (ln ?_)
  refine an (sq (sq (ln ?_)))
  refine an ?_
  rcases dH (decide ((p2.size : Int) > 1048576)) with b1 | b1
  · replace h := bJ b1 h
    refine lct (sq (ln ?_))
    refine an (rt ?_)
    cases h
    simp [Ret, TB, EN, *]
  replace h := bI b1 h
  refine lcf (sk (an (sq (ln ?_))))
  refine an (sq ?_)
  obtain ⟨x2, h3, h⟩ := bind_some h
  refine ln1 (c7 _ _ _ h3) ?_
  refine an (sq (sq (ln ?_)))
  refine an ?_
  rcases dH (decide (x2 < 0)) with b4 | b4
  · replace h := bJ b4 h
    refine lct (sq (ln ?_))
    refine an (rt ?_)
    cases h
    simp [Ret, TB, EN, *]
  replace h := bI b4 h
  refine lcf (sk (an (sq ?_)))
  obtain ⟨x5, h6, h⟩ := bind_some h
  obtain ⟨x7, h8, h⟩ := bind_some h
  refine ln2 (c9 _ _ h6) (c18 _ _ _ _ h8) ?_
  refine an (sq ?_)
  obtain ⟨x9, h10, h⟩ := bind_some h
  refine ln1 (c9 _ _ h10) ?_
  refine an (sq ?_)
  obtain ⟨x11, h12, h⟩ := bind_some h
  refine ln1 (c19 _ _ _ _ h12) ?_
  refine an (sq (sq ?_))
  obtain ⟨x13, h14, h⟩ := bind_some h
  rcases dH (!x13) with b15 | b15
  · replace h := bJ b15 h
    refine ln1 (c11 _ _ _ h14) ?_
    refine an (lct (sq (ln ?_)))
    refine an (rt ?_)
    cases h
    simp [Ret, TB, EN, *]
  replace h := bI b15 h
  refine ln1 (c11 _ _ _ h14) ?_
  refine an ?_
  rcases dH (x11.2 != x7.2) with b16 | b16
  · replace h := bJ b16 h
    refine lct (sq (ln ?_))
    refine an (rt ?_)
    cases h
    simp [Ret, TB, EN, *]
  replace h := bI b16 h
  refine lcf (sk (an (sq (sq ?_))))
  obtain ⟨x17, h18, h⟩ := bind_some h
  obtain ⟨x19, h20, h⟩ := bind_some h
  refine ld2 mixed (c9 _ _ h18) (c11 _ _ _ h20) ?_
  refine an ?_
  rcases dH (!x19) with b21 | b21
  · replace h := bJ b21 h
    refine lct (sq (ln ?_))
    refine an (rt ?_)
    cases h
    simp [Ret, TB, EN, *]
  replace h := bI b21 h
  refine lcf (sk (an (sq (ln ?_))))
  refine an (sq ?_)
  obtain ⟨x22, h23, h⟩ := bind_some h
  refine aL6 (n := 2) (x := 57) (y := 58) (d := 59) (ag := true) (cs := [.dat (.int .i64 x9.Now), .dat (.bool x9.Online), .dat (.int .i64 x9.Device), .row 400035 1, .row 500035 1, .dat (.int .i64 x9.NextPage), .row 700035 1, .row 800035 1, .row 900035 1, .row 1000035 1]) (k := 1) [1, 2, 3, 8, 9, 11, 12, 13] [3, 8, 11, 400031, 400040, 500031, 500040, 700031, 700040, 800031, 800040, 900031, 900040, 1000031, 1000040] rfl rfl rfl rfl rfl (by decide) ?_ ?_ ?_ (aC5 x9 1 x22 h23) ?_ (by simp +decide [aAU]) ?_ ?_ ?_ ?_ (s1 := ?S95) (s3 := ?S96)
  rotate_left 2
  · simp +decide only [LX, E, reduceIte, Nat.reduceAdd, Nat.reduceMul, Int.reduceEq, Int.reduceLT, Bool.not_true, Bool.not_false, L, TB, EN, *, -h]
    exact Is.mk _
  · simp +decide only [LX, F, reduceIte, Nat.reduceAdd, Bool.not_true, Bool.not_false, EN, *, -h]
  · simp +decide only [LX, F, reduceIte, Nat.reduceAdd, Bool.not_true, Bool.not_false, EN, *, -h]
  · refine ⟨_, _, rfl, rfl, rfl, ?_⟩
    refine ⟨_, _, rfl, rfl, rfl, ?_⟩
    refine ⟨_, _, rfl, rfl, rfl, ?_⟩
    refine ⟨211, 24, List.map M.aE.en x9.aK.Buckets, List.map M.aE.en x22.1, _, _, by simp +decide only [LX, F, reduceIte, Nat.reduceAdd, Bool.not_true, Bool.not_false, EN, *, -h], aC2 (f := M.aE.en) (fun _ => rfl) _, rfl, rfl, ?_⟩
    refine ⟨104, 11, List.map M.bG.en x9.Pages, List.map M.bG.en x22.2.1, _, _, by simp +decide only [LX, F, reduceIte, Nat.reduceAdd, Bool.not_true, Bool.not_false, EN, *, -h], aC2 (f := M.bG.en) (fun _ => rfl) _, rfl, rfl, ?_⟩
    refine ⟨_, _, rfl, rfl, rfl, ?_⟩
    refine ⟨186, 4, List.map M.cF.en x9.Locks.Locks, List.map M.cF.en x22.2.2.1, _, _, by simp +decide only [LX, F, reduceIte, Nat.reduceAdd, Bool.not_true, Bool.not_false, EN, *, -h], aC2 (f := M.cF.en) (fun _ => rfl) _, rfl, rfl, ?_⟩
    refine ⟨183, 3, List.map M.fH.en x9.Channel.Mails, List.map M.fH.en x22.2.2.2.1, _, _, by simp +decide only [LX, F, reduceIte, Nat.reduceAdd, Bool.not_true, Bool.not_false, EN, *, -h], aC2 (f := M.fH.en) (fun _ => rfl) _, rfl, rfl, ?_⟩
    refine ⟨75, 4, List.map M.Site.en x9.Sites, List.map M.Site.en x22.2.2.2.2.1, _, _, by simp +decide only [LX, F, reduceIte, Nat.reduceAdd, Bool.not_true, Bool.not_false, EN, *, -h], aC2 (f := M.Site.en) (fun _ => rfl) _, rfl, rfl, ?_⟩
    refine ⟨145, 5, List.map M.Server.en x9.Servers, List.map M.Server.en x22.2.2.2.2.2.1, _, _, by simp +decide only [LX, F, reduceIte, Nat.reduceAdd, Bool.not_true, Bool.not_false, EN, *, -h], aC2 (f := M.Server.en) (fun _ => rfl) _, rfl, rfl, ?_⟩
    exact ⟨rfl, rfl⟩
  · simp +decide only [LC, LX, F, reduceIte, Nat.reduceAdd, Bool.not_true, Bool.not_false, EN, *, -h]
  · simp +decide only [LC, LX, F, reduceIte, Nat.reduceAdd, Bool.not_true, Bool.not_false, EN, *, -h]
  · simp +decide only [LX, E, reduceIte, Nat.reduceAdd, Nat.reduceMul, Int.reduceEq, Int.reduceLT, Bool.not_true, Bool.not_false, L, TB, EN, *, -h]
    exact Is.mk _
  refine an (sq (sq ?_))
  refine lcu (fun s => s.t 1 = .v false [.dat (.int .i64 p1)] ∧ s.t 2 = .v false [.dat (.str p2)] ∧ s.t 3 = .v false [.bp 3 1 0] ∧ s.t 8 = .v false [.bp 8 1 0] ∧ s.t 9 = .v false [.dat (.int .i64 x7.2)] ∧ s.t 11 = .v false [.bp 11 1 0] ∧ s.t 12 = .v false [.dat (.int .i64 x11.2)] ∧ s.t 13 = .v false [.dat (.int .i64 x22.2.2.2.2.2.2)] ∧ s.h 3 = (1, .box 35 [.dat (.int .i64 p0.Now), .dat (.bool p0.Online), .dat (.int .i64 p0.Device), .old base (.sl (List.map M.aE.en p0.aK.Buckets)), .old base (.sl (List.map M.bG.en p0.Pages)), .dat (.int .i64 p0.NextPage), .old base (.sl (List.map M.cF.en p0.Locks.Locks)), .old base (.sl (List.map M.fH.en p0.Channel.Mails)), .old base (.sl (List.map M.Site.en p0.Sites)), .old base (.sl (List.map M.Server.en p0.Servers))]) ∧ s.h 8 = (1, .box 50 [.dat (.int .i64 x7.1.Now), .dat (.bool x7.1.Online), .dat (.int .i64 x7.1.Device), .row 400031 1, .row 500031 1, .dat (.int .i64 x7.1.NextPage), .row 700031 1, .row 800031 1, .row 900031 1, .row 1000031 1]) ∧ s.h 11 = (1, .box 50 [.dat (.int .i64 x11.1.Now), .dat (.bool x11.1.Online), .dat (.int .i64 x11.1.Device), .row 400040 1, .row 500040 1, .dat (.int .i64 x11.1.NextPage), .row 700040 1, .row 800040 1, .row 900040 1, .row 1000040 1]) ∧ s.h 400031 = (1, .row 211 24 (List.map M.aE.en x7.1.aK.Buckets) true) ∧ s.h 400040 = (1, .row 211 24 (List.map M.aE.en x11.1.aK.Buckets) true) ∧ s.h 500031 = (1, .row 104 11 (List.map M.bG.en x7.1.Pages) true) ∧ s.h 500040 = (1, .row 104 11 (List.map M.bG.en x11.1.Pages) true) ∧ s.h 700031 = (1, .row 186 4 (List.map M.cF.en x7.1.Locks.Locks) true) ∧ s.h 700040 = (1, .row 186 4 (List.map M.cF.en x11.1.Locks.Locks) true) ∧ s.h 800031 = (1, .row 183 3 (List.map M.fH.en x7.1.Channel.Mails) true) ∧ s.h 800040 = (1, .row 183 3 (List.map M.fH.en x11.1.Channel.Mails) true) ∧ s.h 900031 = (1, .row 75 4 (List.map M.Site.en x7.1.Sites) true) ∧ s.h 900040 = (1, .row 75 4 (List.map M.Site.en x11.1.Sites) true) ∧ s.h 1000031 = (1, .row 145 5 (List.map M.Server.en x7.1.Servers) true) ∧ s.h 1000040 = (1, .row 145 5 (List.map M.Server.en x11.1.Servers) true) ∧ True) ?_
  rintro s24 ⟨f25, f26, f27, f28, f29, f30, f31, f32, f33, f34, f35, f36, f37, f38, f39, f40, f41, f42, f43, f44, f45, f46, f47, _⟩
  rcases dH (decide (x22.2.2.2.2.2.2 < 0)) with b48 | b48
  · replace h := bJ b48 h
    refine ln ?_
    refine an (lct (sq (ln ?_)))
    refine an (rt ?_)
    cases h
    simp [Ret, TB, EN, *]
  replace h := bI b48 h
  obtain ⟨x49, h50, h⟩ := bind_some h
  rcases dH (!x49) with b51 | b51
  · replace h := bJ b51 h
    refine ln1 (c11 _ _ _ h50) ?_
    refine an (lct (sq (ln ?_)))
    refine an (rt ?_)
    cases h
    simp [Ret, TB, EN, *]
  replace h := bI b51 h
  refine ln1 (c11 _ _ _ h50) ?_
  refine an (lcf (sk (an (sq (ln ?_)))))
  refine an (sq ?_)
  obtain ⟨x52, h53, h⟩ := bind_some h
  refine aL6 (n := 2) (x := 73) (y := 74) (d := 75) (ag := true) (cs := [.dat (.int .i64 x11.1.Now), .dat (.bool x11.1.Online), .dat (.int .i64 x11.1.Device), .row 400040 1, .row 500040 1, .dat (.int .i64 x11.1.NextPage), .row 700040 1, .row 800040 1, .row 900040 1, .row 1000040 1]) (k := 1) [1, 2, 3, 8, 9, 11, 14] [3, 8, 11, 400031, 400040, 500031, 500040, 700031, 700040, 800031, 800040, 900031, 900040, 1000031, 1000040] rfl rfl rfl rfl rfl (by decide) ?_ ?_ ?_ (aC5 x11.1 1 x52 h53) ?_ (by simp +decide [aAU]) ?_ ?_ ?_ ?_ (s1 := ?S93) (s3 := ?S94)
  rotate_left 2
  · simp +decide only [LX, E, reduceIte, Nat.reduceAdd, Nat.reduceMul, Int.reduceEq, Int.reduceLT, Bool.not_true, Bool.not_false, L, TB, EN, *, -h]
    exact Is.mk _
  · simp +decide only [LX, F, reduceIte, Nat.reduceAdd, Bool.not_true, Bool.not_false, EN, *, -h]
  · simp +decide only [LX, F, reduceIte, Nat.reduceAdd, Bool.not_true, Bool.not_false, EN, *, -h]
  · refine ⟨_, _, rfl, rfl, rfl, ?_⟩
    refine ⟨_, _, rfl, rfl, rfl, ?_⟩
    refine ⟨_, _, rfl, rfl, rfl, ?_⟩
    refine ⟨211, 24, List.map M.aE.en x11.1.aK.Buckets, List.map M.aE.en x52.1, _, _, by simp +decide only [LX, F, reduceIte, Nat.reduceAdd, Bool.not_true, Bool.not_false, EN, *, -h], aC2 (f := M.aE.en) (fun _ => rfl) _, rfl, rfl, ?_⟩
    refine ⟨104, 11, List.map M.bG.en x11.1.Pages, List.map M.bG.en x52.2.1, _, _, by simp +decide only [LX, F, reduceIte, Nat.reduceAdd, Bool.not_true, Bool.not_false, EN, *, -h], aC2 (f := M.bG.en) (fun _ => rfl) _, rfl, rfl, ?_⟩
    refine ⟨_, _, rfl, rfl, rfl, ?_⟩
    refine ⟨186, 4, List.map M.cF.en x11.1.Locks.Locks, List.map M.cF.en x52.2.2.1, _, _, by simp +decide only [LX, F, reduceIte, Nat.reduceAdd, Bool.not_true, Bool.not_false, EN, *, -h], aC2 (f := M.cF.en) (fun _ => rfl) _, rfl, rfl, ?_⟩
    refine ⟨183, 3, List.map M.fH.en x11.1.Channel.Mails, List.map M.fH.en x52.2.2.2.1, _, _, by simp +decide only [LX, F, reduceIte, Nat.reduceAdd, Bool.not_true, Bool.not_false, EN, *, -h], aC2 (f := M.fH.en) (fun _ => rfl) _, rfl, rfl, ?_⟩
    refine ⟨75, 4, List.map M.Site.en x11.1.Sites, List.map M.Site.en x52.2.2.2.2.1, _, _, by simp +decide only [LX, F, reduceIte, Nat.reduceAdd, Bool.not_true, Bool.not_false, EN, *, -h], aC2 (f := M.Site.en) (fun _ => rfl) _, rfl, rfl, ?_⟩
    refine ⟨145, 5, List.map M.Server.en x11.1.Servers, List.map M.Server.en x52.2.2.2.2.2.1, _, _, by simp +decide only [LX, F, reduceIte, Nat.reduceAdd, Bool.not_true, Bool.not_false, EN, *, -h], aC2 (f := M.Server.en) (fun _ => rfl) _, rfl, rfl, ?_⟩
    exact ⟨rfl, rfl⟩
  · simp +decide only [LC, LX, F, reduceIte, Nat.reduceAdd, Bool.not_true, Bool.not_false, EN, *, -h]
  · simp +decide only [LC, LX, F, reduceIte, Nat.reduceAdd, Bool.not_true, Bool.not_false, EN, *, -h]
  · simp +decide only [LX, E, reduceIte, Nat.reduceAdd, Nat.reduceMul, Int.reduceEq, Int.reduceLT, Bool.not_true, Bool.not_false, L, TB, EN, *, -h]
    exact Is.mk _
  refine an (sq ?_)
  refine lcu (fun s => s.t 1 = .v false [.dat (.int .i64 p1)] ∧ s.t 2 = .v false [.dat (.str p2)] ∧ s.t 3 = .v false [.bp 3 1 0] ∧ s.t 8 = .v false [.bp 8 1 0] ∧ s.t 9 = .v false [.dat (.int .i64 x7.2)] ∧ s.t 11 = .v false [.bp 11 1 0] ∧ s.t 14 = .v false [.dat (.int .i64 x52.2.2.2.2.2.2)] ∧ s.h 3 = (1, .box 35 [.dat (.int .i64 p0.Now), .dat (.bool p0.Online), .dat (.int .i64 p0.Device), .old base (.sl (List.map M.aE.en p0.aK.Buckets)), .old base (.sl (List.map M.bG.en p0.Pages)), .dat (.int .i64 p0.NextPage), .old base (.sl (List.map M.cF.en p0.Locks.Locks)), .old base (.sl (List.map M.fH.en p0.Channel.Mails)), .old base (.sl (List.map M.Site.en p0.Sites)), .old base (.sl (List.map M.Server.en p0.Servers))]) ∧ s.h 8 = (1, .box 50 [.dat (.int .i64 x7.1.Now), .dat (.bool x7.1.Online), .dat (.int .i64 x7.1.Device), .row 400031 1, .row 500031 1, .dat (.int .i64 x7.1.NextPage), .row 700031 1, .row 800031 1, .row 900031 1, .row 1000031 1]) ∧ s.h 11 = (1, .box 50 [.dat (.int .i64 x11.1.Now), .dat (.bool x11.1.Online), .dat (.int .i64 x11.1.Device), .row 400040 1, .row 500040 1, .dat (.int .i64 x11.1.NextPage), .row 700040 1, .row 800040 1, .row 900040 1, .row 1000040 1]) ∧ s.h 400031 = (1, .row 211 24 (List.map M.aE.en x7.1.aK.Buckets) true) ∧ s.h 400040 = (1, .row 211 24 (List.map M.aE.en x52.1) true) ∧ s.h 500031 = (1, .row 104 11 (List.map M.bG.en x7.1.Pages) true) ∧ s.h 500040 = (1, .row 104 11 (List.map M.bG.en x52.2.1) true) ∧ s.h 700031 = (1, .row 186 4 (List.map M.cF.en x7.1.Locks.Locks) true) ∧ s.h 700040 = (1, .row 186 4 (List.map M.cF.en x52.2.2.1) true) ∧ s.h 800031 = (1, .row 183 3 (List.map M.fH.en x7.1.Channel.Mails) true) ∧ s.h 800040 = (1, .row 183 3 (List.map M.fH.en x52.2.2.2.1) true) ∧ s.h 900031 = (1, .row 75 4 (List.map M.Site.en x7.1.Sites) true) ∧ s.h 900040 = (1, .row 75 4 (List.map M.Site.en x52.2.2.2.2.1) true) ∧ s.h 1000031 = (1, .row 145 5 (List.map M.Server.en x7.1.Servers) true) ∧ s.h 1000040 = (1, .row 145 5 (List.map M.Server.en x52.2.2.2.2.2.1) true) ∧ True) ?_
  rintro s54 ⟨f55, f56, f57, f58, f59, f60, f61, f62, f63, f64, f65, f66, f67, f68, f69, f70, f71, f72, f73, f74, f75, f76, _⟩
  refine ln ?_
  refine an (sq ?_)
  obtain ⟨x77, h78, h⟩ := bind_some h
  refine ln1 (c13 _ _ _ h78) ?_
  refine an (sq (sq (ln ?_)))
  refine an ?_
  rcases dH (decide (x77 < 0)) with b79 | b79
  · replace h := bJ b79 h
    refine lct (sq (ln ?_))
    refine an (rt ?_)
    cases h
    simp [Ret, TB, EN, *]
  replace h := bI b79 h
  refine lcf (sk (an (sq (sq (ln ?_)))))
  refine an ?_
  rcases dH (x77 != x52.2.2.2.2.2.2) with b80 | b80
  · replace h := bJ b80 h
    refine lct (sq (ln ?_))
    refine an (rt ?_)
    cases h
    simp [Ret, TB, EN, *]
  replace h := bI b80 h
  refine lcf (sk (an (sq ?_)))
  obtain ⟨x81, h82, h⟩ := bind_some h
  obtain ⟨x83, h84, h⟩ := bind_some h
  refine ln2 (c9 _ _ h82) (c19 _ _ _ _ h84) ?_
  refine an (sq (sq ?_))
  obtain ⟨x85, h86, h⟩ := bind_some h
  rcases dH (!x85) with b87 | b87
  · replace h := bJ b87 h
    refine ln1 (c11 _ _ _ h86) ?_
    refine an (lct (sq (ln ?_)))
    refine an (rt ?_)
    cases h
    simp [Ret, TB, EN, *]
  replace h := bI b87 h
  refine ln1 (c11 _ _ _ h86) ?_
  refine an ?_
  rcases dH (x83.2 != x7.2) with b88 | b88
  · replace h := bJ b88 h
    refine lct (sq (ln ?_))
    refine an (rt ?_)
    cases h
    simp [Ret, TB, EN, *]
  replace h := bI b88 h
  refine lcf (sk (an (sq (ln ?_))))
  refine an (sq ?_)
  obtain ⟨x89, h90, h⟩ := bind_some h
  refine ln1 (c13 _ _ _ h90) ?_
  refine an (sq (sq (ln ?_)))
  refine an ?_
  rcases dH (decide (x89 < 0)) with b91 | b91
  · replace h := bJ b91 h
    refine lct (sq (ln ?_))
    refine an (rt ?_)
    cases h
    simp [Ret, TB, EN, *]
  replace h := bI b91 h
  refine lcf (sk (an (sq (sq (ln ?_)))))
  refine an ?_
  rcases dH (x89 != x52.2.2.2.2.2.2) with b92 | b92
  · replace h := bJ b92 h
    refine lct (sq (ln ?_))
    refine an (rt ?_)
    cases h
    simp [Ret, TB, EN, *]
  replace h := bI b92 h
  refine lcf (sk (an (sq (ln ?_))))
  refine an (rt ?_)
  cases h
  simp [Ret, TB, EN, *]
end Go.Proofs.YtecmnmaaopkdfaaGreat.gen
