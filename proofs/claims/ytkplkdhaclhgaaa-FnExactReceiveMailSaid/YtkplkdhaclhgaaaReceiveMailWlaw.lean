/-
  Helper text: walks: each function's contract out of its model. No conditions beyond those of each contract.
-/
import Derived.Test.YtkplkdhaclhgaaaReceiveMailTi
import Derived.Test.YtkplkdhaclhgaaaReceiveMailWeq
import Derived.Test.YtkplkdhaclhgaaaReceiveMailWheld
import Derived.Test.YtkplkdhaclhgaaaReceiveMailWimpl
import Derived.Test.YtkplkdhaclhgaaaReceiveMailWmark
import Derived.Test.YtkplkdhaclhgaaaReceiveMailWspec
import Derived.Test.YtkplkdhaclhgaaaReceiveMailWsz
import Derived.Test.YtkplkdhaclhgaaaReceiveMailWto
namespace Go.Proofs.Ytkplkdhaclhgaaa.gen
open Go Go.Sh
set_option linter.unusedVariables false
set_option linter.unusedSimpArgs false
set_option maxRecDepth 20000 in
set_option maxHeartbeats 4000000 in
theorem c_laws_FnExactReceiveMail (p0 : M.Channel) (p1 : Int) (r : Bool) (h : m_laws_FnExactReceiveMail p0 p1 = some r) : SCalls Try.prog 3 [(true, M.Channel.en p0), (false, [.int .i64 p1])] [(false, [.ro (.bool r)])] := by
  unfold m_laws_FnExactReceiveMail at h
  simp only [M.Channel.en]
  refine scallsL (N := 125) (vars := [.tmp 4]) Try.func3 rfl rfl rfl (by decide +kernel) (Nat.le_of_ble_eq_true rfl) fun base wd => ?_
  refine sq (ln ?_)
  refine an (sq (ln ?_))
  refine an (sq ?_)
  obtain ⟨x1, h2, h⟩ := bind_some h
  refine ln1 (c_laws_szChannel _ _ _ h2) ?_
  refine an (sq (sq (ln ?_)))
  refine an ?_
  rcases bcase (decide (x1 < 0)) with b3 | b3
  · replace h := ite_t b3 h
    refine lct (sq (ln ?_))
    refine an (rt ?_)
    cases h
    simp [Ret, TB, EN, *]
  replace h := ite_f b3 h
  refine lcf (sk (an (sq ?_)))
  obtain ⟨x4, h5, h⟩ := bind_some h
  obtain ⟨x6, h7, h⟩ := bind_some h
  refine ln2 (c_laws_toChannel _ _ h5) (c_spec_ReceiveMail _ _ _ h7) ?_
  refine an (sq ?_)
  obtain ⟨x8, h9, h⟩ := bind_some h
  refine ln1 (c_laws_toChannel _ _ h9) ?_
  refine an (sq ?_)
  obtain ⟨x10, h11, h⟩ := bind_some h
  refine ln1 (c_impl_ReceiveMail _ _ _ h11) ?_
  refine an (sq (sq ?_))
  obtain ⟨x12, h13, h⟩ := bind_some h
  rcases bcase (!x12) with b14 | b14
  · replace h := ite_t b14 h
    refine ln1 (c_laws_eqChannel _ _ _ h13) ?_
    refine an (lct (sq (ln ?_)))
    refine an (rt ?_)
    cases h
    simp [Ret, TB, EN, *]
  replace h := ite_f b14 h
  obtain ⟨x15, h16, h⟩ := bind_some h
  rcases bcase (!x15) with b17 | b17
  · replace h := ite_t b17 h
    refine ln2 (c_laws_eqChannel _ _ _ h13) (c_laws_eqMail _ _ _ h16) ?_
    refine an (lct (sq (ln ?_)))
    refine an (rt ?_)
    cases h
    simp [Ret, TB, EN, *]
  replace h := ite_f b17 h
  refine ln2 (c_laws_eqChannel _ _ _ h13) (c_laws_eqMail _ _ _ h16) ?_
  refine an ?_
  rcases bcase (!(x10.2.2 == x6.2.2)) with b18 | b18
  · replace h := ite_t b18 h
    refine lct (sq (ln ?_))
    refine an (rt ?_)
    cases h
    simp [Ret, TB, EN, *]
  replace h := ite_f b18 h
  refine lcf (sk (an (sq (sq ?_))))
  obtain ⟨x19, h20, h⟩ := bind_some h
  obtain ⟨x21, h22, h⟩ := bind_some h
  refine ld2 mixed (c_laws_toChannel _ _ h20) (c_laws_eqChannel _ _ _ h22) ?_
  refine an ?_
  rcases bcase (!x21) with b23 | b23
  · replace h := ite_t b23 h
    refine lct (sq (ln ?_))
    refine an (rt ?_)
    cases h
    simp [Ret, TB, EN, *]
  replace h := ite_f b23 h
  refine lcf (sk (an (sq (ln ?_))))
  refine an (sq ?_)
  obtain ⟨x24, h25, h⟩ := bind_some h
  refine SW_mark (n := 2) (x := 61) (y := 62) (d := 63) (ag := true) (cs := [.row 100033 1]) (k := 1) [1, 2, 6, 7, 8, 10, 11, 12, 13] [2, 6, 7, 10, 11, 100028, 100037] rfl rfl rfl rfl rfl (by decide) ?_ ?_ ?_ (c_laws_markChannel x8 1 x24 h25) ?_ (by simp +decide [mkIds]) ?_ ?_ ?_ ?_ (s1 := ?S87) (s3 := ?S88)
  rotate_left 2
  · simp +decide only [LX, E, reduceIte, Nat.reduceAdd, Nat.reduceMul, Int.reduceEq, Int.reduceLT, Bool.not_true, Bool.not_false, L, TB, EN, *, -h]
    exact Is.mk _
  · simp +decide only [LX, F, reduceIte, Nat.reduceAdd, Bool.not_true, Bool.not_false, EN, *, -h]
  · simp +decide only [LX, F, reduceIte, Nat.reduceAdd, Bool.not_true, Bool.not_false, EN, *, -h]
  · refine ⟨30, 3, List.map M.Mail.en x8.Mails, List.map M.Mail.en x24.1, _, _, by simp +decide only [LX, F, reduceIte, Nat.reduceAdd, Bool.not_true, Bool.not_false, EN, *, -h], mapLen (f := M.Mail.en) (fun _ => rfl) _, rfl, rfl, ?_⟩
    exact ⟨rfl, rfl⟩
  · simp +decide only [LC, LX, F, reduceIte, Nat.reduceAdd, Bool.not_true, Bool.not_false, EN, *, -h]
  · simp +decide only [LC, LX, F, reduceIte, Nat.reduceAdd, Bool.not_true, Bool.not_false, EN, *, -h]
  · simp +decide only [LX, E, reduceIte, Nat.reduceAdd, Nat.reduceMul, Int.reduceEq, Int.reduceLT, Bool.not_true, Bool.not_false, L, TB, EN, *, -h]
    exact Is.mk _
  refine an (sq (sq ?_))
  refine lcu (fun s => s.t 1 = .v false [.dat (.int .i64 p1)] ∧ s.t 2 = .v false [.bp 2 1 0] ∧ s.t 6 = .v false [.bp 6 1 0] ∧ s.t 7 = .v false [.bp 7 1 0] ∧ s.t 8 = .v false [.dat (.bool x6.2.2)] ∧ s.t 10 = .v false [.bp 10 1 0] ∧ s.t 11 = .v false [.bp 11 1 0] ∧ s.t 12 = .v false [.dat (.bool x10.2.2)] ∧ s.t 13 = .v false [.dat (.int .i64 x24.2)] ∧ s.h 2 = (1, .box 24 [.old base (.sl (List.map M.Mail.en p0.Mails))]) ∧ s.h 6 = (1, .box 28 [.row 100028 1]) ∧ s.h 7 = (1, .box 30 [.dat (.int .i64 x6.2.1.To), .dat (.int .i64 x6.2.1.From), .dat (.int .i64 x6.2.1.N)]) ∧ s.h 10 = (1, .box 28 [.row 100037 1]) ∧ s.h 11 = (1, .box 30 [.dat (.int .i64 x10.2.1.To), .dat (.int .i64 x10.2.1.From), .dat (.int .i64 x10.2.1.N)]) ∧ s.h 100028 = (1, .row 30 3 (List.map M.Mail.en x6.1.Mails) true) ∧ s.h 100037 = (1, .row 30 3 (List.map M.Mail.en x10.1.Mails) true) ∧ True) ?_
  rintro s26 ⟨f27, f28, f29, f30, f31, f32, f33, f34, f35, f36, f37, f38, f39, f40, f41, f42, _⟩
  rcases bcase (decide (x24.2 < 0)) with b43 | b43
  · replace h := ite_t b43 h
    refine ln ?_
    refine an (lct (sq (ln ?_)))
    refine an (rt ?_)
    cases h
    simp [Ret, TB, EN, *]
  replace h := ite_f b43 h
  obtain ⟨x44, h45, h⟩ := bind_some h
  rcases bcase (!x44) with b46 | b46
  · replace h := ite_t b46 h
    refine ln1 (c_laws_eqChannel _ _ _ h45) ?_
    refine an (lct (sq (ln ?_)))
    refine an (rt ?_)
    cases h
    simp [Ret, TB, EN, *]
  replace h := ite_f b46 h
  obtain ⟨x47, h48, h⟩ := bind_some h
  rcases bcase (!x47) with b49 | b49
  · replace h := ite_t b49 h
    refine ln2 (c_laws_eqChannel _ _ _ h45) (c_laws_eqMail _ _ _ h48) ?_
    refine an (lct (sq (ln ?_)))
    refine an (rt ?_)
    cases h
    simp [Ret, TB, EN, *]
  replace h := ite_f b49 h
  refine ln2 (c_laws_eqChannel _ _ _ h45) (c_laws_eqMail _ _ _ h48) ?_
  refine an (lcf (sk (an (sq (ln ?_)))))
  refine an (sq ?_)
  obtain ⟨x50, h51, h⟩ := bind_some h
  refine SW_mark (n := 2) (x := 83) (y := 84) (d := 85) (ag := true) (cs := [.row 100037 1]) (k := 1) [1, 2, 6, 7, 8, 10, 14] [2, 6, 7, 10, 100028, 100037] rfl rfl rfl rfl rfl (by decide) ?_ ?_ ?_ (c_laws_markChannel x10.1 1 x50 h51) ?_ (by simp +decide [mkIds]) ?_ ?_ ?_ ?_ (s1 := ?S85) (s3 := ?S86)
  rotate_left 2
  · simp +decide only [LX, E, reduceIte, Nat.reduceAdd, Nat.reduceMul, Int.reduceEq, Int.reduceLT, Bool.not_true, Bool.not_false, L, TB, EN, *, -h]
    exact Is.mk _
  · simp +decide only [LX, F, reduceIte, Nat.reduceAdd, Bool.not_true, Bool.not_false, EN, *, -h]
  · simp +decide only [LX, F, reduceIte, Nat.reduceAdd, Bool.not_true, Bool.not_false, EN, *, -h]
  · refine ⟨30, 3, List.map M.Mail.en x10.1.Mails, List.map M.Mail.en x50.1, _, _, by simp +decide only [LX, F, reduceIte, Nat.reduceAdd, Bool.not_true, Bool.not_false, EN, *, -h], mapLen (f := M.Mail.en) (fun _ => rfl) _, rfl, rfl, ?_⟩
    exact ⟨rfl, rfl⟩
  · simp +decide only [LC, LX, F, reduceIte, Nat.reduceAdd, Bool.not_true, Bool.not_false, EN, *, -h]
  · simp +decide only [LC, LX, F, reduceIte, Nat.reduceAdd, Bool.not_true, Bool.not_false, EN, *, -h]
  · simp +decide only [LX, E, reduceIte, Nat.reduceAdd, Nat.reduceMul, Int.reduceEq, Int.reduceLT, Bool.not_true, Bool.not_false, L, TB, EN, *, -h]
    exact Is.mk _
  refine an (sq ?_)
  refine lcu (fun s => s.t 1 = .v false [.dat (.int .i64 p1)] ∧ s.t 2 = .v false [.bp 2 1 0] ∧ s.t 6 = .v false [.bp 6 1 0] ∧ s.t 7 = .v false [.bp 7 1 0] ∧ s.t 8 = .v false [.dat (.bool x6.2.2)] ∧ s.t 10 = .v false [.bp 10 1 0] ∧ s.t 14 = .v false [.dat (.int .i64 x50.2)] ∧ s.h 2 = (1, .box 24 [.old base (.sl (List.map M.Mail.en p0.Mails))]) ∧ s.h 6 = (1, .box 28 [.row 100028 1]) ∧ s.h 7 = (1, .box 30 [.dat (.int .i64 x6.2.1.To), .dat (.int .i64 x6.2.1.From), .dat (.int .i64 x6.2.1.N)]) ∧ s.h 10 = (1, .box 28 [.row 100037 1]) ∧ s.h 100028 = (1, .row 30 3 (List.map M.Mail.en x6.1.Mails) true) ∧ s.h 100037 = (1, .row 30 3 (List.map M.Mail.en x50.1) true) ∧ True) ?_
  rintro s52 ⟨f53, f54, f55, f56, f57, f58, f59, f60, f61, f62, f63, f64, f65, _⟩
  refine ln ?_
  refine an (sq ?_)
  obtain ⟨x66, h67, h⟩ := bind_some h
  refine ln1 (c_laws_heldChannel _ _ _ h67) ?_
  refine an (sq (sq (ln ?_)))
  refine an ?_
  rcases bcase (decide (x66 < 0)) with b68 | b68
  · replace h := ite_t b68 h
    refine lct (sq (ln ?_))
    refine an (rt ?_)
    cases h
    simp [Ret, TB, EN, *]
  replace h := ite_f b68 h
  refine lcf (sk (an (sq (sq (ln ?_)))))
  refine an ?_
  rcases bcase (x66 != x50.2) with b69 | b69
  · replace h := ite_t b69 h
    refine lct (sq (ln ?_))
    refine an (rt ?_)
    cases h
    simp [Ret, TB, EN, *]
  replace h := ite_f b69 h
  refine lcf (sk (an (sq ?_)))
  obtain ⟨x70, h71, h⟩ := bind_some h
  obtain ⟨x72, h73, h⟩ := bind_some h
  refine ln2 (c_laws_toChannel _ _ h71) (c_impl_ReceiveMail _ _ _ h73) ?_
  refine an (sq (sq ?_))
  obtain ⟨x74, h75, h⟩ := bind_some h
  rcases bcase (!x74) with b76 | b76
  · replace h := ite_t b76 h
    refine ln1 (c_laws_eqChannel _ _ _ h75) ?_
    refine an (lct (sq (ln ?_)))
    refine an (rt ?_)
    cases h
    simp [Ret, TB, EN, *]
  replace h := ite_f b76 h
  obtain ⟨x77, h78, h⟩ := bind_some h
  rcases bcase (!x77) with b79 | b79
  · replace h := ite_t b79 h
    refine ln2 (c_laws_eqChannel _ _ _ h75) (c_laws_eqMail _ _ _ h78) ?_
    refine an (lct (sq (ln ?_)))
    refine an (rt ?_)
    cases h
    simp [Ret, TB, EN, *]
  replace h := ite_f b79 h
  refine ln2 (c_laws_eqChannel _ _ _ h75) (c_laws_eqMail _ _ _ h78) ?_
  refine an ?_
  rcases bcase (!(x72.2.2 == x6.2.2)) with b80 | b80
  · replace h := ite_t b80 h
    refine lct (sq (ln ?_))
    refine an (rt ?_)
    cases h
    simp [Ret, TB, EN, *]
  replace h := ite_f b80 h
  refine lcf (sk (an (sq (ln ?_))))
  refine an (sq ?_)
  obtain ⟨x81, h82, h⟩ := bind_some h
  refine ln1 (c_laws_heldChannel _ _ _ h82) ?_
  refine an (sq (sq (ln ?_)))
  refine an ?_
  rcases bcase (decide (x81 < 0)) with b83 | b83
  · replace h := ite_t b83 h
    refine lct (sq (ln ?_))
    refine an (rt ?_)
    cases h
    simp [Ret, TB, EN, *]
  replace h := ite_f b83 h
  refine lcf (sk (an (sq (sq (ln ?_)))))
  refine an ?_
  rcases bcase (x81 != x50.2) with b84 | b84
  · replace h := ite_t b84 h
    refine lct (sq (ln ?_))
    refine an (rt ?_)
    cases h
    simp [Ret, TB, EN, *]
  replace h := ite_f b84 h
  refine lcf (sk (an (sq (ln ?_))))
  refine an (rt ?_)
  cases h
  simp [Ret, TB, EN, *]

end Go.Proofs.Ytkplkdhaclhgaaa.gen
