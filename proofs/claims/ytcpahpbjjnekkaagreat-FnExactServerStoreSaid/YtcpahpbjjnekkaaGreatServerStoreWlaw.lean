/-
  Helper text: walks: each function's contract out of its model. No conditions beyond those of each contract.
-/
import Derived.Test.YtcpahpbjjnekkaaGreatServerStoreTi
import Derived.Test.YtcpahpbjjnekkaaGreatServerStoreWsz
import Derived.Test.YtcpahpbjjnekkaaGreatServerStoreWto
import Derived.Test.YtcpahpbjjnekkaaGreatServerStoreWeq
import Derived.Test.YtcpahpbjjnekkaaGreatServerStoreWmark
import Derived.Test.YtcpahpbjjnekkaaGreatServerStoreWheld
import Derived.Test.YtcpahpbjjnekkaaGreatServerStoreWspec
import Derived.Test.YtcpahpbjjnekkaaGreatServerStoreWimpl
namespace Go.Proofs.YtcpahpbjjnekkaaGreat.gen
open Go Go.Sh
set_option linter.unusedVariables false
set_option linter.unusedSimpArgs false
set_option maxRecDepth 20000 in
set_option maxHeartbeats 4000000 in
theorem c_laws_FnExactServerStore (p0 : M.World) (p1 : ByteArray) (r : Bool) (h : m_laws_FnExactServerStore p0 p1 = some r) : SCalls Tryz.prog 7 [(true, M.World.en p0), (false, [.str p1])] [(false, [.ro (.bool r)])] := by
  unfold m_laws_FnExactServerStore at h
  simp only [M.World.en]
  refine scallsL (N := 77) (vars := [.tmp 4]) Tryz.func7 rfl rfl rfl (by decide +kernel) (Nat.le_of_ble_eq_true rfl) fun base wd => ?_
  refine sq (ln ?_)
  refine an (sq (sq (ln ?_)))
  refine an ?_
  rcases bcase (decide ((p1.size : Int) > 1048576)) with b1 | b1
  · replace h := ite_t b1 h
    refine lct (sq (ln ?_))
    refine an (rt ?_)
    cases h
    simp [Ret, TB, EN, *]
  replace h := ite_f b1 h
  refine lcf (sk (an (sq (ln ?_))))
  refine an (sq ?_)
  obtain ⟨x2, h3, h⟩ := bind_some h
  refine ln1 (c_laws_szWorld _ _ _ h3) ?_
  refine an (sq (sq (ln ?_)))
  refine an ?_
  rcases bcase (decide (x2 < 0)) with b4 | b4
  · replace h := ite_t b4 h
    refine lct (sq (ln ?_))
    refine an (rt ?_)
    cases h
    simp [Ret, TB, EN, *]
  replace h := ite_f b4 h
  refine lcf (sk (an (sq ?_)))
  obtain ⟨x5, h6, h⟩ := bind_some h
  obtain ⟨x7, h8, h⟩ := bind_some h
  refine ln2 (c_laws_toWorld _ _ h6) (c_spec_ServerStore _ _ _ h8) ?_
  refine an (sq ?_)
  obtain ⟨x9, h10, h⟩ := bind_some h
  refine ln1 (c_laws_toWorld _ _ h10) ?_
  refine an (sq ?_)
  obtain ⟨x11, h12, h⟩ := bind_some h
  refine ln1 (c_impl_ServerStore _ _ _ h12) ?_
  refine an (sq (sq ?_))
  obtain ⟨x13, h14, h⟩ := bind_some h
  refine ln1 (c_laws_eqStore _ _ _ h14) ?_
  refine an ?_
  rcases bcase (!x13) with b15 | b15
  · replace h := ite_t b15 h
    refine lct (sq (ln ?_))
    refine an (rt ?_)
    cases h
    simp [Ret, TB, EN, *]
  replace h := ite_f b15 h
  refine lcf (sk (an (sq (sq ?_))))
  obtain ⟨x16, h17, h⟩ := bind_some h
  obtain ⟨x18, h19, h⟩ := bind_some h
  refine ld2 mixed (c_laws_toWorld _ _ h17) (c_laws_eqWorld _ _ _ h19) ?_
  refine an ?_
  rcases bcase (!x18) with b20 | b20
  · replace h := ite_t b20 h
    refine lct (sq (ln ?_))
    refine an (rt ?_)
    cases h
    simp [Ret, TB, EN, *]
  replace h := ite_f b20 h
  refine lcf (sk (an (sq (ln ?_))))
  refine an (sq ?_)
  obtain ⟨x21, h22, h⟩ := bind_some h
  refine SW_mark (n := 2) (x := 39) (y := 40) (d := 41) (ag := true) (cs := [.dat (.int .i64 x9.Now), .dat (.bool x9.Online), .dat (.int .i64 x9.Device), .row 400026 1, .row 500026 1, .dat (.int .i64 x9.NextPage), .row 700026 1, .row 800026 1, .row 900026 1, .row 1000026 1]) (k := 1) [1, 2, 6, 8, 9] [2, 6, 8, 200024, 200029] rfl rfl rfl rfl rfl (by decide) ?_ ?_ ?_ (c_laws_markWorld x9 1 x21 h22) ?_ (by simp +decide [mkIds]) ?_ ?_ ?_ ?_ (s1 := ?S68) (s3 := ?S69)
  rotate_left 2
  · simp +decide only [LX, E, reduceIte, Nat.reduceAdd, Nat.reduceMul, Int.reduceEq, Int.reduceLT, Bool.not_true, Bool.not_false, L, TB, EN, *, -h]
    exact Is.mk _
  · simp +decide only [LX, F, reduceIte, Nat.reduceAdd, Bool.not_true, Bool.not_false, EN, *, -h]
  · simp +decide only [LX, F, reduceIte, Nat.reduceAdd, Bool.not_true, Bool.not_false, EN, *, -h]
  · refine ⟨_, _, rfl, rfl, rfl, ?_⟩
    refine ⟨_, _, rfl, rfl, rfl, ?_⟩
    refine ⟨_, _, rfl, rfl, rfl, ?_⟩
    refine ⟨145, 24, List.map M.Bucket.en x9.Storage.Buckets, List.map M.Bucket.en x21.1, _, _, by simp +decide only [LX, F, reduceIte, Nat.reduceAdd, Bool.not_true, Bool.not_false, EN, *, -h], mapLen (f := M.Bucket.en) (fun _ => rfl) _, rfl, rfl, ?_⟩
    refine ⟨70, 11, List.map M.Page.en x9.Pages, List.map M.Page.en x21.2.1, _, _, by simp +decide only [LX, F, reduceIte, Nat.reduceAdd, Bool.not_true, Bool.not_false, EN, *, -h], mapLen (f := M.Page.en) (fun _ => rfl) _, rfl, rfl, ?_⟩
    refine ⟨_, _, rfl, rfl, rfl, ?_⟩
    refine ⟨162, 4, List.map M.Lock.en x9.Locks.Locks, List.map M.Lock.en x21.2.2.1, _, _, by simp +decide only [LX, F, reduceIte, Nat.reduceAdd, Bool.not_true, Bool.not_false, EN, *, -h], mapLen (f := M.Lock.en) (fun _ => rfl) _, rfl, rfl, ?_⟩
    refine ⟨165, 3, List.map M.Mail.en x9.Channel.Mails, List.map M.Mail.en x21.2.2.2.1, _, _, by simp +decide only [LX, F, reduceIte, Nat.reduceAdd, Bool.not_true, Bool.not_false, EN, *, -h], mapLen (f := M.Mail.en) (fun _ => rfl) _, rfl, rfl, ?_⟩
    refine ⟨99, 4, List.map M.Site.en x9.Sites, List.map M.Site.en x21.2.2.2.2.1, _, _, by simp +decide only [LX, F, reduceIte, Nat.reduceAdd, Bool.not_true, Bool.not_false, EN, *, -h], mapLen (f := M.Site.en) (fun _ => rfl) _, rfl, rfl, ?_⟩
    refine ⟨102, 5, List.map M.Server.en x9.Servers, List.map M.Server.en x21.2.2.2.2.2.1, _, _, by simp +decide only [LX, F, reduceIte, Nat.reduceAdd, Bool.not_true, Bool.not_false, EN, *, -h], mapLen (f := M.Server.en) (fun _ => rfl) _, rfl, rfl, ?_⟩
    exact ⟨rfl, rfl⟩
  · simp +decide only [LC, LX, F, reduceIte, Nat.reduceAdd, Bool.not_true, Bool.not_false, EN, *, -h]
  · simp +decide only [LC, LX, F, reduceIte, Nat.reduceAdd, Bool.not_true, Bool.not_false, EN, *, -h]
  · simp +decide only [LX, E, reduceIte, Nat.reduceAdd, Nat.reduceMul, Int.reduceEq, Int.reduceLT, Bool.not_true, Bool.not_false, L, TB, EN, *, -h]
    exact Is.mk _
  refine an (sq (sq ?_))
  refine lcu (fun s => s.t 1 = .v false [.dat (.str p1)] ∧ s.t 2 = .v false [.bp 2 1 0] ∧ s.t 6 = .v false [.bp 6 1 0] ∧ s.t 8 = .v false [.bp 8 1 0] ∧ s.t 9 = .v false [.dat (.int .i64 x21.2.2.2.2.2.2)] ∧ s.h 2 = (1, .box 53 [.dat (.int .i64 p0.Now), .dat (.bool p0.Online), .dat (.int .i64 p0.Device), .old base (.sl (List.map M.Bucket.en p0.Storage.Buckets)), .old base (.sl (List.map M.Page.en p0.Pages)), .dat (.int .i64 p0.NextPage), .old base (.sl (List.map M.Lock.en p0.Locks.Locks)), .old base (.sl (List.map M.Mail.en p0.Channel.Mails)), .old base (.sl (List.map M.Site.en p0.Sites)), .old base (.sl (List.map M.Server.en p0.Servers))]) ∧ s.h 6 = (1, .box 81 [.dat (.str x7.Name), .row 200024 1, .dat (.int .i64 x7.Auto)]) ∧ s.h 8 = (1, .box 81 [.dat (.str x11.Name), .row 200029 1, .dat (.int .i64 x11.Auto)]) ∧ s.h 200024 = (1, .row 240 4 (List.map M.Item.en x7.Items) true) ∧ s.h 200029 = (1, .row 240 4 (List.map M.Item.en x11.Items) true) ∧ True) ?_
  rintro s23 ⟨f24, f25, f26, f27, f28, f29, f30, f31, f32, f33, _⟩
  rcases bcase (decide (x21.2.2.2.2.2.2 < 0)) with b34 | b34
  · replace h := ite_t b34 h
    refine ln ?_
    refine an (lct (sq (ln ?_)))
    refine an (rt ?_)
    cases h
    simp [Ret, TB, EN, *]
  replace h := ite_f b34 h
  obtain ⟨x35, h36, h⟩ := bind_some h
  refine ln1 (c_laws_eqStore _ _ _ h36) ?_
  refine an ?_
  rcases bcase (!x35) with b37 | b37
  · replace h := ite_t b37 h
    refine lct (sq (ln ?_))
    refine an (rt ?_)
    cases h
    simp [Ret, TB, EN, *]
  replace h := ite_f b37 h
  refine lcf (sk (an (sq (ln ?_))))
  refine an (sq ?_)
  obtain ⟨x38, h39, h⟩ := bind_some h
  refine SW_mark (n := 2) (x := 50) (y := 51) (d := 52) (ag := true) (cs := [.dat (.str x11.Name), .row 200029 1, .dat (.int .i64 x11.Auto)]) (k := 1) [1, 2, 6, 8, 10] [2, 6, 8, 200024, 200029] rfl rfl rfl rfl rfl (by decide) ?_ ?_ ?_ (c_laws_markStore x11 1 x38 h39) ?_ (by simp +decide [mkIds]) ?_ ?_ ?_ ?_ (s1 := ?S66) (s3 := ?S67)
  rotate_left 2
  · simp +decide only [LX, E, reduceIte, Nat.reduceAdd, Nat.reduceMul, Int.reduceEq, Int.reduceLT, Bool.not_true, Bool.not_false, L, TB, EN, *, -h]
    exact Is.mk _
  · simp +decide only [LX, F, reduceIte, Nat.reduceAdd, Bool.not_true, Bool.not_false, EN, *, -h]
  · simp +decide only [LX, F, reduceIte, Nat.reduceAdd, Bool.not_true, Bool.not_false, EN, *, -h]
  · refine ⟨_, _, rfl, rfl, rfl, ?_⟩
    refine ⟨240, 4, List.map M.Item.en x11.Items, List.map M.Item.en x38.1, _, _, by simp +decide only [LX, F, reduceIte, Nat.reduceAdd, Bool.not_true, Bool.not_false, EN, *, -h], mapLen (f := M.Item.en) (fun _ => rfl) _, rfl, rfl, ?_⟩
    refine ⟨_, _, rfl, rfl, rfl, ?_⟩
    exact ⟨rfl, rfl⟩
  · simp +decide only [LC, LX, F, reduceIte, Nat.reduceAdd, Bool.not_true, Bool.not_false, EN, *, -h]
  · simp +decide only [LC, LX, F, reduceIte, Nat.reduceAdd, Bool.not_true, Bool.not_false, EN, *, -h]
  · simp +decide only [LX, E, reduceIte, Nat.reduceAdd, Nat.reduceMul, Int.reduceEq, Int.reduceLT, Bool.not_true, Bool.not_false, L, TB, EN, *, -h]
    exact Is.mk _
  refine an (sq ?_)
  refine lcu (fun s => s.t 1 = .v false [.dat (.str p1)] ∧ s.t 2 = .v false [.bp 2 1 0] ∧ s.t 6 = .v false [.bp 6 1 0] ∧ s.t 8 = .v false [.bp 8 1 0] ∧ s.t 10 = .v false [.dat (.int .i64 x38.2)] ∧ s.h 2 = (1, .box 53 [.dat (.int .i64 p0.Now), .dat (.bool p0.Online), .dat (.int .i64 p0.Device), .old base (.sl (List.map M.Bucket.en p0.Storage.Buckets)), .old base (.sl (List.map M.Page.en p0.Pages)), .dat (.int .i64 p0.NextPage), .old base (.sl (List.map M.Lock.en p0.Locks.Locks)), .old base (.sl (List.map M.Mail.en p0.Channel.Mails)), .old base (.sl (List.map M.Site.en p0.Sites)), .old base (.sl (List.map M.Server.en p0.Servers))]) ∧ s.h 6 = (1, .box 81 [.dat (.str x7.Name), .row 200024 1, .dat (.int .i64 x7.Auto)]) ∧ s.h 8 = (1, .box 81 [.dat (.str x11.Name), .row 200029 1, .dat (.int .i64 x11.Auto)]) ∧ s.h 200024 = (1, .row 240 4 (List.map M.Item.en x7.Items) true) ∧ s.h 200029 = (1, .row 240 4 (List.map M.Item.en x38.1) true) ∧ True) ?_
  rintro s40 ⟨f41, f42, f43, f44, f45, f46, f47, f48, f49, f50, _⟩
  refine ln ?_
  refine an (sq ?_)
  obtain ⟨x51, h52, h⟩ := bind_some h
  refine ln1 (c_laws_heldStore _ _ _ h52) ?_
  refine an (sq (sq (ln ?_)))
  refine an ?_
  rcases bcase (decide (x51 < 0)) with b53 | b53
  · replace h := ite_t b53 h
    refine lct (sq (ln ?_))
    refine an (rt ?_)
    cases h
    simp [Ret, TB, EN, *]
  replace h := ite_f b53 h
  refine lcf (sk (an (sq (sq (ln ?_)))))
  refine an ?_
  rcases bcase (x51 != x38.2) with b54 | b54
  · replace h := ite_t b54 h
    refine lct (sq (ln ?_))
    refine an (rt ?_)
    cases h
    simp [Ret, TB, EN, *]
  replace h := ite_f b54 h
  refine lcf (sk (an (sq ?_)))
  obtain ⟨x55, h56, h⟩ := bind_some h
  obtain ⟨x57, h58, h⟩ := bind_some h
  refine ln2 (c_laws_toWorld _ _ h56) (c_impl_ServerStore _ _ _ h58) ?_
  refine an (sq (sq ?_))
  obtain ⟨x59, h60, h⟩ := bind_some h
  refine ln1 (c_laws_eqStore _ _ _ h60) ?_
  refine an ?_
  rcases bcase (!x59) with b61 | b61
  · replace h := ite_t b61 h
    refine lct (sq (ln ?_))
    refine an (rt ?_)
    cases h
    simp [Ret, TB, EN, *]
  replace h := ite_f b61 h
  refine lcf (sk (an (sq (ln ?_))))
  refine an (sq ?_)
  obtain ⟨x62, h63, h⟩ := bind_some h
  refine ln1 (c_laws_heldStore _ _ _ h63) ?_
  refine an (sq (sq (ln ?_)))
  refine an ?_
  rcases bcase (decide (x62 < 0)) with b64 | b64
  · replace h := ite_t b64 h
    refine lct (sq (ln ?_))
    refine an (rt ?_)
    cases h
    simp [Ret, TB, EN, *]
  replace h := ite_f b64 h
  refine lcf (sk (an (sq (sq (ln ?_)))))
  refine an ?_
  rcases bcase (x62 != x38.2) with b65 | b65
  · replace h := ite_t b65 h
    refine lct (sq (ln ?_))
    refine an (rt ?_)
    cases h
    simp [Ret, TB, EN, *]
  replace h := ite_f b65 h
  refine lcf (sk (an (sq (ln ?_))))
  refine an (rt ?_)
  cases h
  simp [Ret, TB, EN, *]

end Go.Proofs.YtcpahpbjjnekkaaGreat.gen
