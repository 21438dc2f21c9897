/-
  Helper text: walks: each function's contract out of its model. No conditions beyond those of each contract.
-/
import Derived.Test.YtcpahpbjjnekkaaGreatNewWorldTi
import Derived.Test.YtcpahpbjjnekkaaGreatNewWorldWeq2
import Derived.Test.YtcpahpbjjnekkaaGreatNewWorldWheld1
import Derived.Test.YtcpahpbjjnekkaaGreatNewWorldWimpl
import Derived.Test.YtcpahpbjjnekkaaGreatNewWorldWmark2
import Derived.Test.YtcpahpbjjnekkaaGreatNewWorldWspec
namespace Go.Proofs.YtcpahpbjjnekkaaGreat.gen
open Go Go.Sh
set_option linter.unusedVariables false
set_option linter.unusedSimpArgs false
set_option maxRecDepth 20000 in
set_option maxHeartbeats 4000000 in
theorem c_laws_FnExactNewWorld (p0 : Int) (r : Bool) (h : m_laws_FnExactNewWorld p0 = some r) : SCalls Tryz.prog 3 [(false, [.int .i64 p0])] [(false, [.ro (.bool r)])] := by
  unfold m_laws_FnExactNewWorld at h
  refine scallsL (N := 41) (vars := [.tmp 2]) Tryz.func3 rfl rfl rfl (by decide +kernel) (Nat.le_of_ble_eq_true rfl) fun base wd => ?_
  refine sq (ln ?_)
  refine an (sq ?_)
  obtain ⟨x1, h2, h⟩ := bind_some h
  refine ln1 (c_spec_NewWorld _ _ h2) ?_
  refine an (sq ?_)
  obtain ⟨x3, h4, h⟩ := bind_some h
  refine ln1 (c_impl_NewWorld _ _ h4) ?_
  refine an (sq (sq ?_))
  obtain ⟨x5, h6, h⟩ := bind_some h
  refine ln1 (c_laws_eqWorld _ _ _ h6) ?_
  refine an ?_
  rcases bcase (!x5) with b7 | b7
  · replace h := ite_t b7 h
    refine lct (sq (ln ?_))
    refine an (rt ?_)
    cases h
    simp [Ret, TB, EN, *]
  replace h := ite_f b7 h
  refine lcf (sk (an (sq (ln ?_))))
  refine an (sq ?_)
  obtain ⟨x8, h9, h⟩ := bind_some h
  refine SW_mark (n := 2) (x := 16) (y := 17) (d := 18) (ag := true) (cs := [.dat (.int .i64 x3.Now), .dat (.bool x3.Online), .dat (.int .i64 x3.Device), .row 400011 1, .row 500011 1, .dat (.int .i64 x3.NextPage), .row 700011 1, .row 800011 1, .row 900011 1, .row 1000011 1]) (k := 1) [0, 3, 4, 5] [3, 4, 400009, 400011, 500009, 500011, 700009, 700011, 800009, 800011, 900009, 900011, 1000009, 1000011] rfl rfl rfl rfl rfl (by decide) ?_ ?_ ?_ (c_laws_markWorld x3 1 x8 h9) ?_ (by simp +decide [mkIds]) ?_ ?_ ?_ ?_ (s1 := ?S42) (s3 := ?S43)
  rotate_left 2
  · simp +decide only [LX, E, reduceIte, Nat.reduceAdd, Nat.reduceMul, Int.reduceEq, Int.reduceLT, Bool.not_true, Bool.not_false, L, TB, EN, *, -h]
    exact Is.mk _
  · simp +decide only [LX, F, reduceIte, Nat.reduceAdd, Bool.not_true, Bool.not_false, EN, *, -h]
  · simp +decide only [LX, F, reduceIte, Nat.reduceAdd, Bool.not_true, Bool.not_false, EN, *, -h]
  · refine ⟨_, _, rfl, rfl, rfl, ?_⟩
    refine ⟨_, _, rfl, rfl, rfl, ?_⟩
    refine ⟨_, _, rfl, rfl, rfl, ?_⟩
    refine ⟨145, 24, List.map M.Bucket.en x3.Storage.Buckets, List.map M.Bucket.en x8.1, _, _, by simp +decide only [LX, F, reduceIte, Nat.reduceAdd, Bool.not_true, Bool.not_false, EN, *, -h], mapLen (f := M.Bucket.en) (fun _ => rfl) _, rfl, rfl, ?_⟩
    refine ⟨70, 11, List.map M.Page.en x3.Pages, List.map M.Page.en x8.2.1, _, _, by simp +decide only [LX, F, reduceIte, Nat.reduceAdd, Bool.not_true, Bool.not_false, EN, *, -h], mapLen (f := M.Page.en) (fun _ => rfl) _, rfl, rfl, ?_⟩
    refine ⟨_, _, rfl, rfl, rfl, ?_⟩
    refine ⟨162, 4, List.map M.Lock.en x3.Locks.Locks, List.map M.Lock.en x8.2.2.1, _, _, by simp +decide only [LX, F, reduceIte, Nat.reduceAdd, Bool.not_true, Bool.not_false, EN, *, -h], mapLen (f := M.Lock.en) (fun _ => rfl) _, rfl, rfl, ?_⟩
    refine ⟨165, 3, List.map M.Mail.en x3.Channel.Mails, List.map M.Mail.en x8.2.2.2.1, _, _, by simp +decide only [LX, F, reduceIte, Nat.reduceAdd, Bool.not_true, Bool.not_false, EN, *, -h], mapLen (f := M.Mail.en) (fun _ => rfl) _, rfl, rfl, ?_⟩
    refine ⟨99, 4, List.map M.Site.en x3.Sites, List.map M.Site.en x8.2.2.2.2.1, _, _, by simp +decide only [LX, F, reduceIte, Nat.reduceAdd, Bool.not_true, Bool.not_false, EN, *, -h], mapLen (f := M.Site.en) (fun _ => rfl) _, rfl, rfl, ?_⟩
    refine ⟨102, 5, List.map M.Server.en x3.Servers, List.map M.Server.en x8.2.2.2.2.2.1, _, _, by simp +decide only [LX, F, reduceIte, Nat.reduceAdd, Bool.not_true, Bool.not_false, EN, *, -h], mapLen (f := M.Server.en) (fun _ => rfl) _, rfl, rfl, ?_⟩
    exact ⟨rfl, rfl⟩
  · simp +decide only [LC, LX, F, reduceIte, Nat.reduceAdd, Bool.not_true, Bool.not_false, EN, *, -h]
  · simp +decide only [LC, LX, F, reduceIte, Nat.reduceAdd, Bool.not_true, Bool.not_false, EN, *, -h]
  · simp +decide only [LX, E, reduceIte, Nat.reduceAdd, Nat.reduceMul, Int.reduceEq, Int.reduceLT, Bool.not_true, Bool.not_false, L, TB, EN, *, -h]
    exact Is.mk _
  refine an (sq ?_)
  refine lcu (fun s => s.t 0 = .v false [.dat (.int .i64 p0)] ∧ s.t 3 = .v false [.bp 3 1 0] ∧ s.t 4 = .v false [.bp 4 1 0] ∧ s.t 5 = .v false [.dat (.int .i64 x8.2.2.2.2.2.2)] ∧ s.h 3 = (1, .box 35 [.dat (.int .i64 x1.Now), .dat (.bool x1.Online), .dat (.int .i64 x1.Device), .row 400009 1, .row 500009 1, .dat (.int .i64 x1.NextPage), .row 700009 1, .row 800009 1, .row 900009 1, .row 1000009 1]) ∧ s.h 4 = (1, .box 35 [.dat (.int .i64 x3.Now), .dat (.bool x3.Online), .dat (.int .i64 x3.Device), .row 400011 1, .row 500011 1, .dat (.int .i64 x3.NextPage), .row 700011 1, .row 800011 1, .row 900011 1, .row 1000011 1]) ∧ s.h 400009 = (1, .row 145 24 (List.map M.Bucket.en x1.Storage.Buckets) true) ∧ s.h 400011 = (1, .row 145 24 (List.map M.Bucket.en x8.1) true) ∧ s.h 500009 = (1, .row 70 11 (List.map M.Page.en x1.Pages) true) ∧ s.h 500011 = (1, .row 70 11 (List.map M.Page.en x8.2.1) true) ∧ s.h 700009 = (1, .row 162 4 (List.map M.Lock.en x1.Locks.Locks) true) ∧ s.h 700011 = (1, .row 162 4 (List.map M.Lock.en x8.2.2.1) true) ∧ s.h 800009 = (1, .row 165 3 (List.map M.Mail.en x1.Channel.Mails) true) ∧ s.h 800011 = (1, .row 165 3 (List.map M.Mail.en x8.2.2.2.1) true) ∧ s.h 900009 = (1, .row 99 4 (List.map M.Site.en x1.Sites) true) ∧ s.h 900011 = (1, .row 99 4 (List.map M.Site.en x8.2.2.2.2.1) true) ∧ s.h 1000009 = (1, .row 102 5 (List.map M.Server.en x1.Servers) true) ∧ s.h 1000011 = (1, .row 102 5 (List.map M.Server.en x8.2.2.2.2.2.1) true) ∧ True) ?_
  rintro s10 ⟨f11, f12, f13, f14, f15, f16, f17, f18, f19, f20, f21, f22, f23, f24, f25, f26, f27, f28, _⟩
  refine ln ?_
  refine an (sq ?_)
  obtain ⟨x29, h30, h⟩ := bind_some h
  refine ln1 (c_laws_heldWorld _ _ _ h30) ?_
  refine an (sq (sq (ln ?_)))
  refine an ?_
  rcases bcase (decide (x29 < 0)) with b31 | b31
  · replace h := ite_t b31 h
    refine lct (sq (ln ?_))
    refine an (rt ?_)
    cases h
    simp [Ret, TB, EN, *]
  replace h := ite_f b31 h
  refine lcf (sk (an (sq (sq (ln ?_)))))
  refine an ?_
  rcases bcase (x29 != x8.2.2.2.2.2.2) with b32 | b32
  · replace h := ite_t b32 h
    refine lct (sq (ln ?_))
    refine an (rt ?_)
    cases h
    simp [Ret, TB, EN, *]
  replace h := ite_f b32 h
  refine lcf (sk (an (sq ?_)))
  obtain ⟨x33, h34, h⟩ := bind_some h
  refine ln1 (c_impl_NewWorld _ _ h34) ?_
  refine an (sq (sq ?_))
  obtain ⟨x35, h36, h⟩ := bind_some h
  refine ln1 (c_laws_eqWorld _ _ _ h36) ?_
  refine an ?_
  rcases bcase (!x35) with b37 | b37
  · replace h := ite_t b37 h
    refine lct (sq (ln ?_))
    refine an (rt ?_)
    cases h
    simp [Ret, TB, EN, *]
  replace h := ite_f b37 h
  refine lcf (sk (an (sq (ln ?_))))
  refine an (sq ?_)
  obtain ⟨x38, h39, h⟩ := bind_some h
  refine ln1 (c_laws_heldWorld _ _ _ h39) ?_
  refine an (sq (sq (ln ?_)))
  refine an ?_
  rcases bcase (decide (x38 < 0)) with b40 | b40
  · replace h := ite_t b40 h
    refine lct (sq (ln ?_))
    refine an (rt ?_)
    cases h
    simp [Ret, TB, EN, *]
  replace h := ite_f b40 h
  refine lcf (sk (an (sq (sq (ln ?_)))))
  refine an ?_
  rcases bcase (x38 != x8.2.2.2.2.2.2) with b41 | b41
  · replace h := ite_t b41 h
    refine lct (sq (ln ?_))
    refine an (rt ?_)
    cases h
    simp [Ret, TB, EN, *]
  replace h := ite_f b41 h
  refine lcf (sk (an (sq (ln ?_))))
  refine an (rt ?_)
  cases h
  simp [Ret, TB, EN, *]

end Go.Proofs.YtcpahpbjjnekkaaGreat.gen
