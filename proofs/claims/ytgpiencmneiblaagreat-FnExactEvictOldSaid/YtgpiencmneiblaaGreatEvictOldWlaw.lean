/-
  Helper text: walks: each function's contract out of its model. No conditions beyond those of each contract.
-/
import Derived.Test.YtgpiencmneiblaaGreatEvictOldTi
import Derived.Test.YtgpiencmneiblaaGreatEvictOldWsz
import Derived.Test.YtgpiencmneiblaaGreatEvictOldWto
import Derived.Test.YtgpiencmneiblaaGreatEvictOldWeq
import Derived.Test.YtgpiencmneiblaaGreatEvictOldWmark
import Derived.Test.YtgpiencmneiblaaGreatEvictOldWheld
import Derived.Test.YtgpiencmneiblaaGreatEvictOldWspec
import Derived.Test.YtgpiencmneiblaaGreatEvictOldWimpl
namespace Go.Proofs.YtgpiencmneiblaaGreat.gen
open Go Go.Sh
set_option linter.unusedVariables false
set_option linter.unusedSimpArgs false
set_option maxHeartbeats 4000000 in
theorem c_laws_FnExactEvictOld (p0 : M.Storage) (p1 : List M.Page) (p2 : Int) (r : Bool) (h : m_laws_FnExactEvictOld p0 p1 p2 = some r) : SCalls Tryz.prog 11 [(true, M.Storage.en p0), (false, [.sl (List.map M.Page.en p1)]), (false, [.int .i64 p2])] [(false, [.ro (.bool r)])] := by
  unfold m_laws_FnExactEvictOld at h
  simp only [M.Storage.en]
  refine scallsL (N := 140) (vars := [.tmp 6]) Tryz.func11 rfl rfl rfl (by decide +kernel) (Nat.le_of_ble_eq_true rfl) fun base wd => ?_
  refine sq (ln ?_)
  refine an (sq (ln ?_))
  refine an (sq ?_)
  obtain ⟨x1, h2, h⟩ := bind_some h
  refine ln1 (c_laws_szStorage _ _ _ h2) ?_
  refine an (sq (sq (ln ?_)))
  refine an ?_
  rcases bcase (decide (x1 < 0)) with b3 | b3
  · replace h := ite_t b3 h
    refine lct (sq (ln ?_))
    refine an (rt ?_)
    cases h
    simp [Ret, TB, EN, *]
  replace h := ite_f b3 h
  refine lcf (sk (an (sq ?_)))
  obtain ⟨x4, h5, h⟩ := bind_some h
  refine ln1 (c_laws_szPageS _ _ _ h5) ?_
  refine an (sq (sq (ln ?_)))
  refine an ?_
  rcases bcase (decide (x4 < 0)) with b6 | b6
  · replace h := ite_t b6 h
    refine lct (sq (ln ?_))
    refine an (rt ?_)
    cases h
    simp [Ret, TB, EN, *]
  replace h := ite_f b6 h
  refine lcf (sk (an (sq ?_)))
  obtain ⟨x7, h8, h⟩ := bind_some h
  obtain ⟨x9, h10, h⟩ := bind_some h
  obtain ⟨x11, h12, h⟩ := bind_some h
  refine ln3 (c_laws_toStorage _ _ h8) (c_laws_toPageS _ _ h10) (c_spec_EvictOld _ _ _ _ h12) ?_
  refine an (sq ?_)
  obtain ⟨x13, h14, h⟩ := bind_some h
  refine ln1 (c_laws_toStorage _ _ h14) ?_
  refine an (sq ?_)
  obtain ⟨x15, h16, h⟩ := bind_some h
  refine ln1 (c_laws_toPageS _ _ h16) ?_
  refine an (sq ?_)
  obtain ⟨x17, h18, h⟩ := bind_some h
  refine ln1 (c_impl_EvictOld _ _ _ _ h18) ?_
  refine an (sq (sq ?_))
  obtain ⟨x19, h20, h⟩ := bind_some h
  rcases bcase (!x19) with b21 | b21
  · replace h := ite_t b21 h
    refine ln1 (c_laws_eqStorage _ _ _ h20) ?_
    refine an (lct (sq (ln ?_)))
    refine an (rt ?_)
    cases h
    simp [Ret, TB, EN, *]
  replace h := ite_f b21 h
  obtain ⟨x22, h23, h⟩ := bind_some h
  refine ln2 (c_laws_eqStorage _ _ _ h20) (c_laws_eqStringS _ _ _ h23) ?_
  refine an ?_
  rcases bcase (!x22) with b24 | b24
  · replace h := ite_t b24 h
    refine lct (sq (ln ?_))
    refine an (rt ?_)
    cases h
    simp [Ret, TB, EN, *]
  replace h := ite_f b24 h
  refine lcf (sk (an (sq (sq ?_))))
  obtain ⟨x25, h26, h⟩ := bind_some h
  obtain ⟨x27, h28, h⟩ := bind_some h
  refine ld2 mixed (c_laws_toStorage _ _ h26) (c_laws_eqStorage _ _ _ h28) ?_
  refine an ?_
  rcases bcase (!x27) with b29 | b29
  · replace h := ite_t b29 h
    refine lct (sq (ln ?_))
    refine an (rt ?_)
    cases h
    simp [Ret, TB, EN, *]
  replace h := ite_f b29 h
  refine lcf (sk (an (sq (sq ?_))))
  obtain ⟨x30, h31, h⟩ := bind_some h
  obtain ⟨x32, h33, h⟩ := bind_some h
  refine ln2 (c_laws_toPageS _ _ h31) (c_laws_eqPageS _ _ _ h33) ?_
  refine an ?_
  rcases bcase (!x32) with b34 | b34
  · replace h := ite_t b34 h
    refine lct (sq (ln ?_))
    refine an (rt ?_)
    cases h
    simp [Ret, TB, EN, *]
  replace h := ite_f b34 h
  refine lcf (sk (an (sq (ln ?_))))
  refine an (sq ?_)
  refine lcu (fun s => s.t 1 = .v false [.old base (.sl (List.map M.Page.en p1))] ∧ s.t 2 = .v false [.dat (.int .i64 p2)] ∧ s.t 3 = .v false [.bp 3 1 0] ∧ s.t 8 = .v false [.bp 8 1 0] ∧ s.t 9 = .v false [.row 200035 1] ∧ s.t 10 = .v false [.bp 10 1 0] ∧ s.t 11 = .v false [.row 100041 1] ∧ s.t 12 = .v false [.bp 12 1 0] ∧ s.t 13 = .v false [.row 200046 1] ∧ s.t 14 = .v false [.dat (.int .i64 1)] ∧ s.h 3 = (1, .box 76 [.old base (.sl (List.map M.Bucket.en p0.Buckets))]) ∧ s.h 8 = (1, .box 81 [.row 100035 1]) ∧ s.h 10 = (1, .box 81 [.row 100039 1]) ∧ s.h 12 = (1, .box 81 [.row 100046 1]) ∧ s.h 100035 = (1, .row 69 24 (List.map M.Bucket.en x11.1.Buckets) true) ∧ s.h 100039 = (1, .row 69 24 (List.map M.Bucket.en x13.Buckets) true) ∧ s.h 100041 = (1, .row 145 11 (List.map M.Page.en x15) true) ∧ s.h 100046 = (1, .row 69 24 (List.map M.Bucket.en x17.1.Buckets) true) ∧ s.h 200035 = (1, .row 9 1 (List.map enS x11.2) true) ∧ s.h 200046 = (1, .row 9 1 (List.map enS x17.2) true) ∧ True) ?_
  rintro s35 ⟨f36, f37, f38, f39, f40, f41, f42, f43, f44, f45, f46, f47, f48, f49, f50, f51, f52, f53, f54, f55, _⟩
  obtain ⟨x56, h57, h⟩ := bind_some h
  refine SW_mark (n := 2) (x := 69) (y := 70) (d := 71) (ag := true) (cs := [.row 100039 1]) (k := 1) [1, 2, 3, 8, 9, 11, 12, 13, 14] [3, 8, 12, 100035, 100041, 100046, 200035, 200046] rfl rfl rfl rfl rfl (by decide) ?_ ?_ ?_ (c_laws_markStorage x13 1 x56 h57) ?_ (by simp +decide [mkIds]) ?_ ?_ ?_ ?_ (s1 := ?S169) (s3 := ?S170)
  rotate_left 2
  · simp +decide only [LX, E, reduceIte, Nat.reduceAdd, Nat.reduceMul, Int.reduceEq, Int.reduceLT, Bool.not_true, Bool.not_false, L, TB, EN, *, -h]
    exact Is.mk _
  · simp +decide only [LX, F, reduceIte, Nat.reduceAdd, Bool.not_true, Bool.not_false, EN, *, -h]
  · simp +decide only [LX, F, reduceIte, Nat.reduceAdd, Bool.not_true, Bool.not_false, EN, *, -h]
  · refine ⟨69, 24, List.map M.Bucket.en x13.Buckets, List.map M.Bucket.en x56.1, _, _, by simp +decide only [LX, F, reduceIte, Nat.reduceAdd, Bool.not_true, Bool.not_false, EN, *, -h], mapLen (f := M.Bucket.en) (fun _ => rfl) _, rfl, rfl, ?_⟩
    exact ⟨rfl, rfl⟩
  · simp +decide only [LC, LX, F, reduceIte, Nat.reduceAdd, Bool.not_true, Bool.not_false, EN, *, -h]
  · simp +decide only [LC, LX, F, reduceIte, Nat.reduceAdd, Bool.not_true, Bool.not_false, EN, *, -h]
  · simp +decide only [LX, E, reduceIte, Nat.reduceAdd, Nat.reduceMul, Int.reduceEq, Int.reduceLT, Bool.not_true, Bool.not_false, L, TB, EN, *, -h]
    exact Is.mk _
  refine an (sq ?_)
  refine lcu (fun s => s.t 1 = .v false [.old base (.sl (List.map M.Page.en p1))] ∧ s.t 2 = .v false [.dat (.int .i64 p2)] ∧ s.t 3 = .v false [.bp 3 1 0] ∧ s.t 8 = .v false [.bp 8 1 0] ∧ s.t 9 = .v false [.row 200035 1] ∧ s.t 11 = .v false [.row 100041 1] ∧ s.t 12 = .v false [.bp 12 1 0] ∧ s.t 13 = .v false [.row 200046 1] ∧ s.t 14 = .v false [.dat (.int .i64 x56.2)] ∧ s.h 3 = (1, .box 76 [.old base (.sl (List.map M.Bucket.en p0.Buckets))]) ∧ s.h 8 = (1, .box 81 [.row 100035 1]) ∧ s.h 12 = (1, .box 81 [.row 100046 1]) ∧ s.h 100035 = (1, .row 69 24 (List.map M.Bucket.en x11.1.Buckets) true) ∧ s.h 100041 = (1, .row 145 11 (List.map M.Page.en x15) true) ∧ s.h 100046 = (1, .row 69 24 (List.map M.Bucket.en x17.1.Buckets) true) ∧ s.h 200035 = (1, .row 9 1 (List.map enS x11.2) true) ∧ s.h 200046 = (1, .row 9 1 (List.map enS x17.2) true) ∧ True) ?_
  rintro s58 ⟨f59, f60, f61, f62, f63, f64, f65, f66, f67, f68, f69, f70, f71, f72, f73, f74, f75, _⟩
  obtain ⟨x76, h77, h⟩ := bind_some h
  refine SW_mark (n := 2) (x := 72) (y := 73) (d := 74) (ag := false) (cs := [.row 100041 1]) (k := x56.2) [1, 2, 3, 8, 9, 12, 13, 14] [3, 8, 12, 100035, 100046, 200035, 200046] rfl rfl rfl rfl rfl (by decide) ?_ ?_ ?_ (c_laws_markPageS x15 x56.2 x76 h77) ?_ (by simp +decide [mkIds]) ?_ ?_ ?_ ?_ (s1 := ?S167) (s3 := ?S168)
  rotate_left 2
  · simp +decide only [LX, E, reduceIte, Nat.reduceAdd, Nat.reduceMul, Int.reduceEq, Int.reduceLT, Bool.not_true, Bool.not_false, L, TB, EN, *, -h]
    exact Is.mk _
  · simp +decide only [LX, F, reduceIte, Nat.reduceAdd, Bool.not_true, Bool.not_false, EN, *, -h]
  · simp +decide only [LX, F, reduceIte, Nat.reduceAdd, Bool.not_true, Bool.not_false, EN, *, -h]
  · refine ⟨145, 11, List.map M.Page.en x15, List.map M.Page.en x76.1, _, _, by simp +decide only [LX, F, reduceIte, Nat.reduceAdd, Bool.not_true, Bool.not_false, EN, *, -h], mapLen (f := M.Page.en) (fun _ => rfl) _, rfl, rfl, ?_⟩
    exact ⟨rfl, rfl⟩
  · simp +decide only [LC, LX, F, reduceIte, Nat.reduceAdd, Bool.not_true, Bool.not_false, EN, *, -h]
  · simp +decide only [LC, LX, F, reduceIte, Nat.reduceAdd, Bool.not_true, Bool.not_false, EN, *, -h]
  · simp +decide only [LX, E, reduceIte, Nat.reduceAdd, Nat.reduceMul, Int.reduceEq, Int.reduceLT, Bool.not_true, Bool.not_false, L, TB, EN, *, -h]
    exact Is.mk _
  refine an (sq (sq ?_))
  refine lcu (fun s => s.t 1 = .v false [.old base (.sl (List.map M.Page.en p1))] ∧ s.t 2 = .v false [.dat (.int .i64 p2)] ∧ s.t 3 = .v false [.bp 3 1 0] ∧ s.t 8 = .v false [.bp 8 1 0] ∧ s.t 9 = .v false [.row 200035 1] ∧ s.t 12 = .v false [.bp 12 1 0] ∧ s.t 13 = .v false [.row 200046 1] ∧ s.t 14 = .v false [.dat (.int .i64 x76.2)] ∧ s.h 3 = (1, .box 76 [.old base (.sl (List.map M.Bucket.en p0.Buckets))]) ∧ s.h 8 = (1, .box 81 [.row 100035 1]) ∧ s.h 12 = (1, .box 81 [.row 100046 1]) ∧ s.h 100035 = (1, .row 69 24 (List.map M.Bucket.en x11.1.Buckets) true) ∧ s.h 100046 = (1, .row 69 24 (List.map M.Bucket.en x17.1.Buckets) true) ∧ s.h 200035 = (1, .row 9 1 (List.map enS x11.2) true) ∧ s.h 200046 = (1, .row 9 1 (List.map enS x17.2) true) ∧ True) ?_
  rintro s78 ⟨f79, f80, f81, f82, f83, f84, f85, f86, f87, f88, f89, f90, f91, f92, f93, _⟩
  rcases bcase (decide (x76.2 < 0)) with b94 | b94
  · replace h := ite_t b94 h
    refine ln ?_
    refine an (lct (sq (ln ?_)))
    refine an (rt ?_)
    cases h
    simp [Ret, TB, EN, *]
  replace h := ite_f b94 h
  obtain ⟨x95, h96, h⟩ := bind_some h
  rcases bcase (!x95) with b97 | b97
  · replace h := ite_t b97 h
    refine ln1 (c_laws_eqStorage _ _ _ h96) ?_
    refine an (lct (sq (ln ?_)))
    refine an (rt ?_)
    cases h
    simp [Ret, TB, EN, *]
  replace h := ite_f b97 h
  obtain ⟨x98, h99, h⟩ := bind_some h
  refine ln2 (c_laws_eqStorage _ _ _ h96) (c_laws_eqStringS _ _ _ h99) ?_
  refine an ?_
  rcases bcase (!x98) with b100 | b100
  · replace h := ite_t b100 h
    refine lct (sq (ln ?_))
    refine an (rt ?_)
    cases h
    simp [Ret, TB, EN, *]
  replace h := ite_f b100 h
  refine lcf (sk (an (sq (ln ?_))))
  refine an (sq ?_)
  obtain ⟨x101, h102, h⟩ := bind_some h
  refine SW_mark (n := 2) (x := 89) (y := 90) (d := 91) (ag := true) (cs := [.row 100046 1]) (k := 1) [1, 2, 3, 8, 9, 12, 13, 15] [3, 8, 12, 100035, 100046, 200035, 200046] rfl rfl rfl rfl rfl (by decide) ?_ ?_ ?_ (c_laws_markStorage x17.1 1 x101 h102) ?_ (by simp +decide [mkIds]) ?_ ?_ ?_ ?_ (s1 := ?S165) (s3 := ?S166)
  rotate_left 2
  · simp +decide only [LX, E, reduceIte, Nat.reduceAdd, Nat.reduceMul, Int.reduceEq, Int.reduceLT, Bool.not_true, Bool.not_false, L, TB, EN, *, -h]
    exact Is.mk _
  · simp +decide only [LX, F, reduceIte, Nat.reduceAdd, Bool.not_true, Bool.not_false, EN, *, -h]
  · simp +decide only [LX, F, reduceIte, Nat.reduceAdd, Bool.not_true, Bool.not_false, EN, *, -h]
  · refine ⟨69, 24, List.map M.Bucket.en x17.1.Buckets, List.map M.Bucket.en x101.1, _, _, by simp +decide only [LX, F, reduceIte, Nat.reduceAdd, Bool.not_true, Bool.not_false, EN, *, -h], mapLen (f := M.Bucket.en) (fun _ => rfl) _, rfl, rfl, ?_⟩
    exact ⟨rfl, rfl⟩
  · simp +decide only [LC, LX, F, reduceIte, Nat.reduceAdd, Bool.not_true, Bool.not_false, EN, *, -h]
  · simp +decide only [LC, LX, F, reduceIte, Nat.reduceAdd, Bool.not_true, Bool.not_false, EN, *, -h]
  · simp +decide only [LX, E, reduceIte, Nat.reduceAdd, Nat.reduceMul, Int.reduceEq, Int.reduceLT, Bool.not_true, Bool.not_false, L, TB, EN, *, -h]
    exact Is.mk _
  refine an (sq ?_)
  refine lcu (fun s => s.t 1 = .v false [.old base (.sl (List.map M.Page.en p1))] ∧ s.t 2 = .v false [.dat (.int .i64 p2)] ∧ s.t 3 = .v false [.bp 3 1 0] ∧ s.t 8 = .v false [.bp 8 1 0] ∧ s.t 9 = .v false [.row 200035 1] ∧ s.t 12 = .v false [.bp 12 1 0] ∧ s.t 13 = .v false [.row 200046 1] ∧ s.t 15 = .v false [.dat (.int .i64 x101.2)] ∧ s.h 3 = (1, .box 76 [.old base (.sl (List.map M.Bucket.en p0.Buckets))]) ∧ s.h 8 = (1, .box 81 [.row 100035 1]) ∧ s.h 12 = (1, .box 81 [.row 100046 1]) ∧ s.h 100035 = (1, .row 69 24 (List.map M.Bucket.en x11.1.Buckets) true) ∧ s.h 100046 = (1, .row 69 24 (List.map M.Bucket.en x101.1) true) ∧ s.h 200035 = (1, .row 9 1 (List.map enS x11.2) true) ∧ s.h 200046 = (1, .row 9 1 (List.map enS x17.2) true) ∧ True) ?_
  rintro s103 ⟨f104, f105, f106, f107, f108, f109, f110, f111, f112, f113, f114, f115, f116, f117, f118, _⟩
  obtain ⟨x119, h120, h⟩ := bind_some h
  refine SW_mark (n := 2) (x := 92) (y := 93) (d := 94) (ag := false) (cs := [.row 200046 1]) (k := x101.2) [1, 2, 3, 8, 9, 12, 13, 15] [3, 8, 12, 100035, 100046, 200035, 200046] rfl rfl rfl rfl rfl (by decide) ?_ ?_ ?_ (c_laws_markStringS x17.2 x101.2 x119 h120) ?_ (by simp +decide [mkIds]) ?_ ?_ ?_ ?_ (s1 := ?S163) (s3 := ?S164)
  rotate_left 2
  · simp +decide only [LX, E, reduceIte, Nat.reduceAdd, Nat.reduceMul, Int.reduceEq, Int.reduceLT, Bool.not_true, Bool.not_false, L, TB, EN, *, -h]
    exact Is.mk _
  · simp +decide only [LX, F, reduceIte, Nat.reduceAdd, Bool.not_true, Bool.not_false, EN, *, -h]
  · simp +decide only [LX, F, reduceIte, Nat.reduceAdd, Bool.not_true, Bool.not_false, EN, *, -h]
  · refine ⟨9, 1, List.map enS x17.2, List.map enS x119.1, _, _, by simp +decide only [LX, F, reduceIte, Nat.reduceAdd, Bool.not_true, Bool.not_false, EN, *, -h], mapLen (f := enS) (fun _ => rfl) _, rfl, rfl, ?_⟩
    exact ⟨rfl, rfl⟩
  · simp +decide only [LC, LX, F, reduceIte, Nat.reduceAdd, Bool.not_true, Bool.not_false, EN, *, -h]
  · simp +decide only [LC, LX, F, reduceIte, Nat.reduceAdd, Bool.not_true, Bool.not_false, EN, *, -h]
  · simp +decide only [LX, E, reduceIte, Nat.reduceAdd, Nat.reduceMul, Int.reduceEq, Int.reduceLT, Bool.not_true, Bool.not_false, L, TB, EN, *, -h]
    exact Is.mk _
  refine an (sq ?_)
  refine lcu (fun s => s.t 1 = .v false [.old base (.sl (List.map M.Page.en p1))] ∧ s.t 2 = .v false [.dat (.int .i64 p2)] ∧ s.t 3 = .v false [.bp 3 1 0] ∧ s.t 8 = .v false [.bp 8 1 0] ∧ s.t 9 = .v false [.row 200035 1] ∧ s.t 12 = .v false [.bp 12 1 0] ∧ s.t 13 = .v false [.row 200046 1] ∧ s.t 15 = .v false [.dat (.int .i64 x119.2)] ∧ s.h 3 = (1, .box 76 [.old base (.sl (List.map M.Bucket.en p0.Buckets))]) ∧ s.h 8 = (1, .box 81 [.row 100035 1]) ∧ s.h 12 = (1, .box 81 [.row 100046 1]) ∧ s.h 100035 = (1, .row 69 24 (List.map M.Bucket.en x11.1.Buckets) true) ∧ s.h 100046 = (1, .row 69 24 (List.map M.Bucket.en x101.1) true) ∧ s.h 200035 = (1, .row 9 1 (List.map enS x11.2) true) ∧ s.h 200046 = (1, .row 9 1 (List.map enS x119.1) true) ∧ True) ?_
  rintro s121 ⟨f122, f123, f124, f125, f126, f127, f128, f129, f130, f131, f132, f133, f134, f135, f136, _⟩
  refine ln ?_
  refine an (sq ?_)
  obtain ⟨x137, h138, h⟩ := bind_some h
  refine ln1 (c_laws_heldStorage _ _ _ h138) ?_
  refine an (sq (sq (ln ?_)))
  refine an ?_
  rcases bcase (decide (x137 < 0)) with b139 | b139
  · replace h := ite_t b139 h
    refine lct (sq (ln ?_))
    refine an (rt ?_)
    cases h
    simp [Ret, TB, EN, *]
  replace h := ite_f b139 h
  refine lcf (sk (an (sq ?_)))
  obtain ⟨x140, h141, h⟩ := bind_some h
  refine ln1 (c_laws_heldStringS _ _ _ h141) ?_
  refine an (sq (sq (ln ?_)))
  refine an ?_
  rcases bcase (decide (x140 < 0)) with b142 | b142
  · replace h := ite_t b142 h
    refine lct (sq (ln ?_))
    refine an (rt ?_)
    cases h
    simp [Ret, TB, EN, *]
  replace h := ite_f b142 h
  refine lcf (sk (an (sq (sq (ln ?_)))))
  refine an ?_
  rcases bcase (x140 != x119.2) with b143 | b143
  · replace h := ite_t b143 h
    refine lct (sq (ln ?_))
    refine an (rt ?_)
    cases h
    simp [Ret, TB, EN, *]
  replace h := ite_f b143 h
  refine lcf (sk (an (sq ?_)))
  obtain ⟨x144, h145, h⟩ := bind_some h
  obtain ⟨x146, h147, h⟩ := bind_some h
  obtain ⟨x148, h149, h⟩ := bind_some h
  refine ln3 (c_laws_toStorage _ _ h145) (c_laws_toPageS _ _ h147) (c_impl_EvictOld _ _ _ _ h149) ?_
  refine an (sq (sq ?_))
  obtain ⟨x150, h151, h⟩ := bind_some h
  rcases bcase (!x150) with b152 | b152
  · replace h := ite_t b152 h
    refine ln1 (c_laws_eqStorage _ _ _ h151) ?_
    refine an (lct (sq (ln ?_)))
    refine an (rt ?_)
    cases h
    simp [Ret, TB, EN, *]
  replace h := ite_f b152 h
  obtain ⟨x153, h154, h⟩ := bind_some h
  refine ln2 (c_laws_eqStorage _ _ _ h151) (c_laws_eqStringS _ _ _ h154) ?_
  refine an ?_
  rcases bcase (!x153) with b155 | b155
  · replace h := ite_t b155 h
    refine lct (sq (ln ?_))
    refine an (rt ?_)
    cases h
    simp [Ret, TB, EN, *]
  replace h := ite_f b155 h
  refine lcf (sk (an (sq (ln ?_))))
  refine an (sq ?_)
  obtain ⟨x156, h157, h⟩ := bind_some h
  refine ln1 (c_laws_heldStorage _ _ _ h157) ?_
  refine an (sq (sq (ln ?_)))
  refine an ?_
  rcases bcase (decide (x156 < 0)) with b158 | b158
  · replace h := ite_t b158 h
    refine lct (sq (ln ?_))
    refine an (rt ?_)
    cases h
    simp [Ret, TB, EN, *]
  replace h := ite_f b158 h
  refine lcf (sk (an (sq ?_)))
  obtain ⟨x159, h160, h⟩ := bind_some h
  refine ln1 (c_laws_heldStringS _ _ _ h160) ?_
  refine an (sq (sq (ln ?_)))
  refine an ?_
  rcases bcase (decide (x159 < 0)) with b161 | b161
  · replace h := ite_t b161 h
    refine lct (sq (ln ?_))
    refine an (rt ?_)
    cases h
    simp [Ret, TB, EN, *]
  replace h := ite_f b161 h
  refine lcf (sk (an (sq (sq (ln ?_)))))
  refine an ?_
  rcases bcase (x159 != x119.2) with b162 | b162
  · replace h := ite_t b162 h
    refine lct (sq (ln ?_))
    refine an (rt ?_)
    cases h
    simp [Ret, TB, EN, *]
  replace h := ite_f b162 h
  refine lcf (sk (an (sq (ln ?_))))
  refine an (rt ?_)
  cases h
  simp [Ret, TB, EN, *]

end Go.Proofs.YtgpiencmneiblaaGreat.gen
