/-
  Helper text: walks: each function's contract out of its model. No conditions beyond those of each contract.
-/
import Derived.Test.YtcpahpbjjnekkaaGreatWorkerVersionsTi
import Derived.Test.YtcpahpbjjnekkaaGreatWorkerVersionsWsz
import Derived.Test.YtcpahpbjjnekkaaGreatWorkerVersionsWto
import Derived.Test.YtcpahpbjjnekkaaGreatWorkerVersionsWeq
import Derived.Test.YtcpahpbjjnekkaaGreatWorkerVersionsWmark
import Derived.Test.YtcpahpbjjnekkaaGreatWorkerVersionsWheld
import Derived.Test.YtcpahpbjjnekkaaGreatWorkerVersionsWspec
import Derived.Test.YtcpahpbjjnekkaaGreatWorkerVersionsWimpl
namespace Go.Proofs.YtcpahpbjjnekkaaGreat.gen
open Go Go.Sh
set_option linter.unusedVariables false
set_option linter.unusedSimpArgs false
set_option maxRecDepth 20000 in
set_option maxHeartbeats 4000000 in
theorem c_laws_FnExactWorkerVersions (p0 : M.World) (p1 : ByteArray) (p2 : ByteArray) (r : Bool) (h : m_laws_FnExactWorkerVersions p0 p1 p2 = some r) : SCalls Tryz.prog 6 [(true, M.World.en p0), (false, [.str p1]), (false, [.str p2])] [(false, [.ro (.bool r)])] := by
  unfold m_laws_FnExactWorkerVersions at h
  simp only [M.World.en]
  refine scallsL (N := 85) (vars := [.tmp 6]) Tryz.func6 rfl rfl rfl (by decide +kernel) (Nat.le_of_ble_eq_true rfl) fun base wd => ?_
  refine sq (ln ?_)
  refine an (sq (sq (ln ?_)))
  refine an ?_
  rcases bcase (decide ((p1.size : Int) > 1048576)) with b1 | b1
  · replace h := ite_t b1 h
    refine lct (sq (ln ?_))
    refine an (rt ?_)
    cases h
    simp [Ret, TB, EN, *]
  replace h := ite_f b1 h
  refine lcf (sk (an (sq (sq (ln ?_)))))
  refine an ?_
  rcases bcase (decide ((p2.size : Int) > 1048576)) with b2 | b2
  · replace h := ite_t b2 h
    refine lct (sq (ln ?_))
    refine an (rt ?_)
    cases h
    simp [Ret, TB, EN, *]
  replace h := ite_f b2 h
  refine lcf (sk (an (sq (ln ?_))))
  refine an (sq ?_)
  obtain ⟨x3, h4, h⟩ := bind_some h
  refine ln1 (c_laws_szWorld _ _ _ h4) ?_
  refine an (sq (sq (ln ?_)))
  refine an ?_
  rcases bcase (decide (x3 < 0)) with b5 | b5
  · replace h := ite_t b5 h
    refine lct (sq (ln ?_))
    refine an (rt ?_)
    cases h
    simp [Ret, TB, EN, *]
  replace h := ite_f b5 h
  refine lcf (sk (an (sq ?_)))
  obtain ⟨x6, h7, h⟩ := bind_some h
  obtain ⟨x8, h9, h⟩ := bind_some h
  refine ln2 (c_laws_toWorld _ _ h7) (c_spec_WorkerVersions _ _ _ _ h9) ?_
  refine an (sq ?_)
  obtain ⟨x10, h11, h⟩ := bind_some h
  refine ln1 (c_laws_toWorld _ _ h11) ?_
  refine an (sq ?_)
  obtain ⟨x12, h13, h⟩ := bind_some h
  refine ln1 (c_impl_WorkerVersions _ _ _ _ h13) ?_
  refine an (sq (sq ?_))
  obtain ⟨x14, h15, h⟩ := bind_some h
  refine ln1 (c_laws_eqIntS _ _ _ h15) ?_
  refine an ?_
  rcases bcase (!x14) with b16 | b16
  · replace h := ite_t b16 h
    refine lct (sq (ln ?_))
    refine an (rt ?_)
    cases h
    simp [Ret, TB, EN, *]
  replace h := ite_f b16 h
  refine lcf (sk (an (sq (sq ?_))))
  obtain ⟨x17, h18, h⟩ := bind_some h
  obtain ⟨x19, h20, h⟩ := bind_some h
  refine ld2 mixed (c_laws_toWorld _ _ h18) (c_laws_eqWorld _ _ _ h20) ?_
  refine an ?_
  rcases bcase (!x19) with b21 | b21
  · replace h := ite_t b21 h
    refine lct (sq (ln ?_))
    refine an (rt ?_)
    cases h
    simp [Ret, TB, EN, *]
  replace h := ite_f b21 h
  refine lcf (sk (an (sq (ln ?_))))
  refine an (sq ?_)
  obtain ⟨x22, h23, h⟩ := bind_some h
  refine SW_mark (n := 2) (x := 46) (y := 47) (d := 48) (ag := true) (cs := [.dat (.int .i64 x10.Now), .dat (.bool x10.Online), .dat (.int .i64 x10.Device), .row 400032 1, .row 500032 1, .dat (.int .i64 x10.NextPage), .row 700032 1, .row 800032 1, .row 900032 1, .row 1000032 1]) (k := 1) [1, 2, 3, 8, 10, 11] [3, 100030, 100036] rfl rfl rfl rfl rfl (by decide) ?_ ?_ ?_ (c_laws_markWorld x10 1 x22 h23) ?_ (by simp +decide [mkIds]) ?_ ?_ ?_ ?_ (s1 := ?S67) (s3 := ?S68)
  rotate_left 2
  · simp +decide only [LX, E, reduceIte, Nat.reduceAdd, Nat.reduceMul, Int.reduceEq, Int.reduceLT, Bool.not_true, Bool.not_false, L, TB, EN, *, -h]
    exact Is.mk _
  · simp +decide only [LX, F, reduceIte, Nat.reduceAdd, Bool.not_true, Bool.not_false, EN, *, -h]
  · simp +decide only [LX, F, reduceIte, Nat.reduceAdd, Bool.not_true, Bool.not_false, EN, *, -h]
  · refine ⟨_, _, rfl, rfl, rfl, ?_⟩
    refine ⟨_, _, rfl, rfl, rfl, ?_⟩
    refine ⟨_, _, rfl, rfl, rfl, ?_⟩
    refine ⟨145, 24, List.map M.Bucket.en x10.Storage.Buckets, List.map M.Bucket.en x22.1, _, _, by simp +decide only [LX, F, reduceIte, Nat.reduceAdd, Bool.not_true, Bool.not_false, EN, *, -h], mapLen (f := M.Bucket.en) (fun _ => rfl) _, rfl, rfl, ?_⟩
    refine ⟨70, 11, List.map M.Page.en x10.Pages, List.map M.Page.en x22.2.1, _, _, by simp +decide only [LX, F, reduceIte, Nat.reduceAdd, Bool.not_true, Bool.not_false, EN, *, -h], mapLen (f := M.Page.en) (fun _ => rfl) _, rfl, rfl, ?_⟩
    refine ⟨_, _, rfl, rfl, rfl, ?_⟩
    refine ⟨162, 4, List.map M.Lock.en x10.Locks.Locks, List.map M.Lock.en x22.2.2.1, _, _, by simp +decide only [LX, F, reduceIte, Nat.reduceAdd, Bool.not_true, Bool.not_false, EN, *, -h], mapLen (f := M.Lock.en) (fun _ => rfl) _, rfl, rfl, ?_⟩
    refine ⟨165, 3, List.map M.Mail.en x10.Channel.Mails, List.map M.Mail.en x22.2.2.2.1, _, _, by simp +decide only [LX, F, reduceIte, Nat.reduceAdd, Bool.not_true, Bool.not_false, EN, *, -h], mapLen (f := M.Mail.en) (fun _ => rfl) _, rfl, rfl, ?_⟩
    refine ⟨99, 4, List.map M.Site.en x10.Sites, List.map M.Site.en x22.2.2.2.2.1, _, _, by simp +decide only [LX, F, reduceIte, Nat.reduceAdd, Bool.not_true, Bool.not_false, EN, *, -h], mapLen (f := M.Site.en) (fun _ => rfl) _, rfl, rfl, ?_⟩
    refine ⟨102, 5, List.map M.Server.en x10.Servers, List.map M.Server.en x22.2.2.2.2.2.1, _, _, by simp +decide only [LX, F, reduceIte, Nat.reduceAdd, Bool.not_true, Bool.not_false, EN, *, -h], mapLen (f := M.Server.en) (fun _ => rfl) _, rfl, rfl, ?_⟩
    exact ⟨rfl, rfl⟩
  · simp +decide only [LC, LX, F, reduceIte, Nat.reduceAdd, Bool.not_true, Bool.not_false, EN, *, -h]
  · simp +decide only [LC, LX, F, reduceIte, Nat.reduceAdd, Bool.not_true, Bool.not_false, EN, *, -h]
  · simp +decide only [LX, E, reduceIte, Nat.reduceAdd, Nat.reduceMul, Int.reduceEq, Int.reduceLT, Bool.not_true, Bool.not_false, L, TB, EN, *, -h]
    exact Is.mk _
  refine an (sq (sq ?_))
  refine lcu (fun s => s.t 1 = .v false [.dat (.str p1)] ∧ s.t 2 = .v false [.dat (.str p2)] ∧ s.t 3 = .v false [.bp 3 1 0] ∧ s.t 8 = .v false [.row 100030 1] ∧ s.t 10 = .v false [.row 100036 1] ∧ s.t 11 = .v false [.dat (.int .i64 x22.2.2.2.2.2.2)] ∧ s.h 3 = (1, .box 53 [.dat (.int .i64 p0.Now), .dat (.bool p0.Online), .dat (.int .i64 p0.Device), .old base (.sl (List.map M.Bucket.en p0.Storage.Buckets)), .old base (.sl (List.map M.Page.en p0.Pages)), .dat (.int .i64 p0.NextPage), .old base (.sl (List.map M.Lock.en p0.Locks.Locks)), .old base (.sl (List.map M.Mail.en p0.Channel.Mails)), .old base (.sl (List.map M.Site.en p0.Sites)), .old base (.sl (List.map M.Server.en p0.Servers))]) ∧ s.h 100030 = (1, .row 3 1 (List.map enI x8) true) ∧ s.h 100036 = (1, .row 3 1 (List.map enI x12) true) ∧ True) ?_
  rintro s24 ⟨f25, f26, f27, f28, f29, f30, f31, f32, f33, _⟩
  rcases bcase (decide (x22.2.2.2.2.2.2 < 0)) with b34 | b34
  · replace h := ite_t b34 h
    refine ln ?_
    refine an (lct (sq (ln ?_)))
    refine an (rt ?_)
    cases h
    simp [Ret, TB, EN, *]
  replace h := ite_f b34 h
  obtain ⟨x35, h36, h⟩ := bind_some h
  refine ln1 (c_laws_eqIntS _ _ _ h36) ?_
  refine an ?_
  rcases bcase (!x35) with b37 | b37
  · replace h := ite_t b37 h
    refine lct (sq (ln ?_))
    refine an (rt ?_)
    cases h
    simp [Ret, TB, EN, *]
  replace h := ite_f b37 h
  refine lcf (sk (an (sq (ln ?_))))
  refine an (sq ?_)
  obtain ⟨x38, h39, h⟩ := bind_some h
  refine SW_mark (n := 2) (x := 57) (y := 58) (d := 59) (ag := false) (cs := [.row 100036 1]) (k := 1) [1, 2, 3, 8, 10, 12] [3, 100030, 100036] rfl rfl rfl rfl rfl (by decide) ?_ ?_ ?_ (c_laws_markIntS x12 1 x38 h39) ?_ (by simp +decide [mkIds]) ?_ ?_ ?_ ?_ (s1 := ?S65) (s3 := ?S66)
  rotate_left 2
  · simp +decide only [LX, E, reduceIte, Nat.reduceAdd, Nat.reduceMul, Int.reduceEq, Int.reduceLT, Bool.not_true, Bool.not_false, L, TB, EN, *, -h]
    exact Is.mk _
  · simp +decide only [LX, F, reduceIte, Nat.reduceAdd, Bool.not_true, Bool.not_false, EN, *, -h]
  · simp +decide only [LX, F, reduceIte, Nat.reduceAdd, Bool.not_true, Bool.not_false, EN, *, -h]
  · refine ⟨3, 1, List.map enI x12, List.map enI x38.1, _, _, by simp +decide only [LX, F, reduceIte, Nat.reduceAdd, Bool.not_true, Bool.not_false, EN, *, -h], mapLen (f := enI) (fun _ => rfl) _, rfl, rfl, ?_⟩
    exact ⟨rfl, rfl⟩
  · simp +decide only [LC, LX, F, reduceIte, Nat.reduceAdd, Bool.not_true, Bool.not_false, EN, *, -h]
  · simp +decide only [LC, LX, F, reduceIte, Nat.reduceAdd, Bool.not_true, Bool.not_false, EN, *, -h]
  · simp +decide only [LX, E, reduceIte, Nat.reduceAdd, Nat.reduceMul, Int.reduceEq, Int.reduceLT, Bool.not_true, Bool.not_false, L, TB, EN, *, -h]
    exact Is.mk _
  refine an (sq ?_)
  refine lcu (fun s => s.t 1 = .v false [.dat (.str p1)] ∧ s.t 2 = .v false [.dat (.str p2)] ∧ s.t 3 = .v false [.bp 3 1 0] ∧ s.t 8 = .v false [.row 100030 1] ∧ s.t 10 = .v false [.row 100036 1] ∧ s.t 12 = .v false [.dat (.int .i64 x38.2)] ∧ s.h 3 = (1, .box 53 [.dat (.int .i64 p0.Now), .dat (.bool p0.Online), .dat (.int .i64 p0.Device), .old base (.sl (List.map M.Bucket.en p0.Storage.Buckets)), .old base (.sl (List.map M.Page.en p0.Pages)), .dat (.int .i64 p0.NextPage), .old base (.sl (List.map M.Lock.en p0.Locks.Locks)), .old base (.sl (List.map M.Mail.en p0.Channel.Mails)), .old base (.sl (List.map M.Site.en p0.Sites)), .old base (.sl (List.map M.Server.en p0.Servers))]) ∧ s.h 100030 = (1, .row 3 1 (List.map enI x8) true) ∧ s.h 100036 = (1, .row 3 1 (List.map enI x38.1) true) ∧ True) ?_
  rintro s40 ⟨f41, f42, f43, f44, f45, f46, f47, f48, f49, _⟩
  refine ln ?_
  refine an (sq ?_)
  obtain ⟨x50, h51, h⟩ := bind_some h
  refine ln1 (c_laws_heldIntS _ _ _ h51) ?_
  refine an (sq (sq (ln ?_)))
  refine an ?_
  rcases bcase (decide (x50 < 0)) with b52 | b52
  · replace h := ite_t b52 h
    refine lct (sq (ln ?_))
    refine an (rt ?_)
    cases h
    simp [Ret, TB, EN, *]
  replace h := ite_f b52 h
  refine lcf (sk (an (sq (sq (ln ?_)))))
  refine an ?_
  rcases bcase (x50 != x38.2) with b53 | b53
  · replace h := ite_t b53 h
    refine lct (sq (ln ?_))
    refine an (rt ?_)
    cases h
    simp [Ret, TB, EN, *]
  replace h := ite_f b53 h
  refine lcf (sk (an (sq ?_)))
  obtain ⟨x54, h55, h⟩ := bind_some h
  obtain ⟨x56, h57, h⟩ := bind_some h
  refine ln2 (c_laws_toWorld _ _ h55) (c_impl_WorkerVersions _ _ _ _ h57) ?_
  refine an (sq (sq ?_))
  obtain ⟨x58, h59, h⟩ := bind_some h
  refine ln1 (c_laws_eqIntS _ _ _ h59) ?_
  refine an ?_
  rcases bcase (!x58) with b60 | b60
  · replace h := ite_t b60 h
    refine lct (sq (ln ?_))
    refine an (rt ?_)
    cases h
    simp [Ret, TB, EN, *]
  replace h := ite_f b60 h
  refine lcf (sk (an (sq (ln ?_))))
  refine an (sq ?_)
  obtain ⟨x61, h62, h⟩ := bind_some h
  refine ln1 (c_laws_heldIntS _ _ _ h62) ?_
  refine an (sq (sq (ln ?_)))
  refine an ?_
  rcases bcase (decide (x61 < 0)) with b63 | b63
  · replace h := ite_t b63 h
    refine lct (sq (ln ?_))
    refine an (rt ?_)
    cases h
    simp [Ret, TB, EN, *]
  replace h := ite_f b63 h
  refine lcf (sk (an (sq (sq (ln ?_)))))
  refine an ?_
  rcases bcase (x61 != x38.2) with b64 | b64
  · replace h := ite_t b64 h
    refine lct (sq (ln ?_))
    refine an (rt ?_)
    cases h
    simp [Ret, TB, EN, *]
  replace h := ite_f b64 h
  refine lcf (sk (an (sq (ln ?_))))
  refine an (rt ?_)
  cases h
  simp [Ret, TB, EN, *]

end Go.Proofs.YtcpahpbjjnekkaaGreat.gen
