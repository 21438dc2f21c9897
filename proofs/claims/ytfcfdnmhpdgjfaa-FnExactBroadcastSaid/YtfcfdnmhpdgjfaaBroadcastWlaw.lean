/-
  Helper text: walks: each function's contract out of its model. No conditions beyond those of each contract.
-/
import Derived.Test.YtfcfdnmhpdgjfaaBroadcastTi
import Derived.Test.YtfcfdnmhpdgjfaaBroadcastWsz
import Derived.Test.YtfcfdnmhpdgjfaaBroadcastWto
import Derived.Test.YtfcfdnmhpdgjfaaBroadcastWeq
import Derived.Test.YtfcfdnmhpdgjfaaBroadcastWmark
import Derived.Test.YtfcfdnmhpdgjfaaBroadcastWheld
import Derived.Test.YtfcfdnmhpdgjfaaBroadcastWspec
import Derived.Test.YtfcfdnmhpdgjfaaBroadcastWimpl
namespace Go.Proofs.Ytfcfdnmhpdgjfaa.gen
open Go Go.Sh
set_option linter.unusedVariables false
set_option linter.unusedSimpArgs false
set_option maxHeartbeats 4000000 in
theorem c_laws_FnExactBroadcast (p0 : M.Channel) (p1 : List M.Page) (p2 : Int) (p3 : Int) (r : Bool) (h : m_laws_FnExactBroadcast p0 p1 p2 p3 = some r) : SCalls Try.prog 8 [(true, M.Channel.en p0), (false, [.sl (List.map M.Page.en p1)]), (false, [.int .i64 p2]), (false, [.int .i64 p3])] [(false, [.ro (.bool r)])] := by
  unfold m_laws_FnExactBroadcast at h
  simp only [M.Channel.en]
  refine scallsL (N := 129) (vars := [.tmp 8]) Try.func8 rfl rfl rfl (by decide +kernel) (Nat.le_of_ble_eq_true rfl) fun base wd => ?_
  refine sq ?_
  apply SW_run
  · simp +decide only [LX, E, reduceIte, Nat.reduceAdd, Nat.reduceMul, Bool.not_true, Bool.not_false, L]
    exact Is.mk _
  refine an (sq ?_)
  apply SW_run
  · simp +decide only [LX, E, reduceIte, Nat.reduceAdd, Nat.reduceMul, Bool.not_true, Bool.not_false, L]
    exact Is.mk _
  refine an (sq ?_)
  obtain ⟨x1, h2, h⟩ := bind_some h
  apply SW_run
  · simp +decide only [LX, E, reduceIte, Nat.reduceAdd, Nat.reduceMul, Bool.not_true, Bool.not_false, L, ti26]
    refine ⟨_, c_laws_szChannel p0 1048576 x1 h2, ?_⟩
    try simp +decide only [LX, E, reduceIte, Nat.reduceAdd, Nat.reduceMul, Bool.not_true, Bool.not_false, L, ti26]
    exact Is.mk _
  refine an (sq (sq ?_))
  apply SW_run
  · simp +decide only [LX, E, reduceIte, Nat.reduceAdd, Nat.reduceMul, Bool.not_true, Bool.not_false, L]
    exact Is.mk _
  refine an ?_
  rcases bcase (decide (x1 < 0)) with b3 | b3
  · replace h := ite_t b3 h
    refine SW_ct (by simp +decide only [LX, F, reduceIte, Nat.reduceAdd, Bool.not_true, Bool.not_false, b3]) ?_
    refine sq ?_
    apply SW_run
    · simp +decide only [LX, E, reduceIte, Nat.reduceAdd, Nat.reduceMul, Bool.not_true, Bool.not_false, L, b3]
      exact Is.mk _
    refine an (rt ?_)
    cases h
    simp [Ret, b3]
  replace h := ite_f b3 h
  refine SW_cf (by simp +decide only [LX, F, reduceIte, Nat.reduceAdd, Bool.not_true, Bool.not_false, b3]) ?_
  refine sk (an (sq ?_))
  obtain ⟨x4, h5, h⟩ := bind_some h
  apply SW_run
  · simp +decide only [LX, E, reduceIte, Nat.reduceAdd, Nat.reduceMul, Bool.not_true, Bool.not_false, L, b3]
    refine ⟨_, c_laws_szPageS p1 x1 x4 h5, ?_⟩
    try simp +decide only [LX, E, reduceIte, Nat.reduceAdd, Nat.reduceMul, Bool.not_true, Bool.not_false, L, b3]
    exact Is.mk _
  refine an (sq (sq ?_))
  apply SW_run
  · simp +decide only [LX, E, reduceIte, Nat.reduceAdd, Nat.reduceMul, Bool.not_true, Bool.not_false, L, b3]
    exact Is.mk _
  refine an ?_
  rcases bcase (decide (x4 < 0)) with b6 | b6
  · replace h := ite_t b6 h
    refine SW_ct (by simp +decide only [LX, F, reduceIte, Nat.reduceAdd, Bool.not_true, Bool.not_false, b3, b6]) ?_
    refine sq ?_
    apply SW_run
    · simp +decide only [LX, E, reduceIte, Nat.reduceAdd, Nat.reduceMul, Bool.not_true, Bool.not_false, L, b3, b6]
      exact Is.mk _
    refine an (rt ?_)
    cases h
    simp [Ret, b3, b6]
  replace h := ite_f b6 h
  refine SW_cf (by simp +decide only [LX, F, reduceIte, Nat.reduceAdd, Bool.not_true, Bool.not_false, b3, b6]) ?_
  refine sk (an (sq ?_))
  obtain ⟨x7, h8, h⟩ := bind_some h
  obtain ⟨x9, h10, h⟩ := bind_some h
  obtain ⟨x11, h12, h⟩ := bind_some h
  apply SW_run
  · simp +decide only [LX, E, reduceIte, Nat.reduceAdd, Nat.reduceMul, Bool.not_true, Bool.not_false, L, ti26, ti30, b3, b6]
    refine ⟨_, c_laws_toChannel p0 x7 h8, ?_⟩
    try simp +decide only [LX, E, reduceIte, Nat.reduceAdd, Nat.reduceMul, Bool.not_true, Bool.not_false, L, ti26, ti30, b3, b6]
    refine ⟨_, c_laws_toPageS p1 x9 h10, ?_⟩
    try simp +decide only [LX, E, reduceIte, Nat.reduceAdd, Nat.reduceMul, Bool.not_true, Bool.not_false, L, ti26, ti30, b3, b6]
    refine ⟨_, c_spec_Broadcast x7 x9 p2 p3 x11 h12, ?_⟩
    try simp +decide only [LX, E, reduceIte, Nat.reduceAdd, Nat.reduceMul, Bool.not_true, Bool.not_false, L, ti26, ti30, b3, b6]
    exact Is.mk _
  refine an (sq ?_)
  obtain ⟨x13, h14, h⟩ := bind_some h
  apply SW_run
  · simp +decide only [LX, E, reduceIte, Nat.reduceAdd, Nat.reduceMul, Bool.not_true, Bool.not_false, L, ti26, ti30, b3, b6]
    refine ⟨_, c_laws_toChannel p0 x13 h14, ?_⟩
    try simp +decide only [LX, E, reduceIte, Nat.reduceAdd, Nat.reduceMul, Bool.not_true, Bool.not_false, L, ti26, ti30, b3, b6]
    exact Is.mk _
  refine an (sq ?_)
  obtain ⟨x15, h16, h⟩ := bind_some h
  apply SW_run
  · simp +decide only [LX, E, reduceIte, Nat.reduceAdd, Nat.reduceMul, Bool.not_true, Bool.not_false, L, b3, b6]
    refine ⟨_, c_laws_toPageS p1 x15 h16, ?_⟩
    try simp +decide only [LX, E, reduceIte, Nat.reduceAdd, Nat.reduceMul, Bool.not_true, Bool.not_false, L, b3, b6]
    exact Is.mk _
  refine an (sq ?_)
  obtain ⟨x17, h18, h⟩ := bind_some h
  apply SW_run
  · simp +decide only [LX, E, reduceIte, Nat.reduceAdd, Nat.reduceMul, Bool.not_true, Bool.not_false, L, ti30, b3, b6]
    refine ⟨_, c_impl_Broadcast x13 x15 p2 p3 x17 h18, ?_⟩
    try simp +decide only [LX, E, reduceIte, Nat.reduceAdd, Nat.reduceMul, Bool.not_true, Bool.not_false, L, ti30, b3, b6]
    exact Is.mk _
  refine an (sq (sq ?_))
  obtain ⟨x19, h20, h⟩ := bind_some h
  rcases bcase (!x19) with b21 | b21
  · replace h := ite_t b21 h
    apply SW_run
    · simp +decide only [LX, E, reduceIte, Nat.reduceAdd, Nat.reduceMul, Bool.not_true, Bool.not_false, L, ti30, b3, b6, b21]
      refine ⟨_, c_laws_eqChannel x17.1 x11.1 x19 h20, ?_⟩
      try simp +decide only [LX, E, reduceIte, Nat.reduceAdd, Nat.reduceMul, Bool.not_true, Bool.not_false, L, ti30, b3, b6, b21]
      exact Is.mk _
    refine an ?_
    refine SW_ct (by simp +decide only [LX, F, reduceIte, Nat.reduceAdd, Bool.not_true, Bool.not_false, b3, b6, b21]) ?_
    refine sq ?_
    apply SW_run
    · simp +decide only [LX, E, reduceIte, Nat.reduceAdd, Nat.reduceMul, Bool.not_true, Bool.not_false, L, b3, b6, b21]
      exact Is.mk _
    refine an (rt ?_)
    cases h
    simp [Ret, b3, b6, b21]
  replace h := ite_f b21 h
  apply SW_run
  · simp +decide only [LX, E, reduceIte, Nat.reduceAdd, Nat.reduceMul, Bool.not_true, Bool.not_false, L, ti30, b3, b6, b21]
    refine ⟨_, c_laws_eqChannel x17.1 x11.1 x19 h20, ?_⟩
    try simp +decide only [LX, E, reduceIte, Nat.reduceAdd, Nat.reduceMul, Bool.not_true, Bool.not_false, L, ti30, b3, b6, b21]
    exact Is.mk _
  refine an ?_
  rcases bcase (x17.2 != x11.2) with b22 | b22
  · replace h := ite_t b22 h
    refine SW_ct (by simp +decide only [LX, F, reduceIte, Nat.reduceAdd, Bool.not_true, Bool.not_false, b3, b6, b21, b22]) ?_
    refine sq ?_
    apply SW_run
    · simp +decide only [LX, E, reduceIte, Nat.reduceAdd, Nat.reduceMul, Bool.not_true, Bool.not_false, L, b3, b6, b21, b22]
      exact Is.mk _
    refine an (rt ?_)
    cases h
    simp [Ret, b3, b6, b21, b22]
  replace h := ite_f b22 h
  refine SW_cf (by simp +decide only [LX, F, reduceIte, Nat.reduceAdd, Bool.not_true, Bool.not_false, b3, b6, b21, b22]) ?_
  refine sk (an (sq (sq ?_)))
  obtain ⟨x23, h24, h⟩ := bind_some h
  obtain ⟨x25, h26, h⟩ := bind_some h
  apply SW_runD mixed
  · simp +decide only [LX, E, reduceIte, Nat.reduceAdd, Nat.reduceMul, Bool.not_true, Bool.not_false, L, ti26, ti30, b3, b6, b21, b22]
    refine ⟨_, c_laws_toChannel p0 x23 h24, ?_⟩
    try simp +decide only [LX, E, reduceIte, Nat.reduceAdd, Nat.reduceMul, Bool.not_true, Bool.not_false, L, ti26, ti30, b3, b6, b21, b22]
    refine ⟨_, c_laws_eqChannel x13 x23 x25 h26, ?_⟩
    try simp +decide only [LX, E, reduceIte, Nat.reduceAdd, Nat.reduceMul, Bool.not_true, Bool.not_false, L, ti26, ti30, b3, b6, b21, b22]
    exact ⟨.mk (by decide +kernel), Is.mk _⟩
  refine an ?_
  rcases bcase (!x25) with b27 | b27
  · replace h := ite_t b27 h
    refine SW_ct (by simp +decide only [LX, F, reduceIte, Nat.reduceAdd, Bool.not_true, Bool.not_false, b3, b6, b21, b22, b27]) ?_
    refine sq ?_
    apply SW_run
    · simp +decide only [LX, E, reduceIte, Nat.reduceAdd, Nat.reduceMul, Bool.not_true, Bool.not_false, L, b3, b6, b21, b22, b27]
      exact Is.mk _
    refine an (rt ?_)
    cases h
    simp [Ret, b3, b6, b21, b22, b27]
  replace h := ite_f b27 h
  refine SW_cf (by simp +decide only [LX, F, reduceIte, Nat.reduceAdd, Bool.not_true, Bool.not_false, b3, b6, b21, b22, b27]) ?_
  refine sk (an (sq (sq ?_)))
  obtain ⟨x28, h29, h⟩ := bind_some h
  obtain ⟨x30, h31, h⟩ := bind_some h
  apply SW_run
  · simp +decide only [LX, E, reduceIte, Nat.reduceAdd, Nat.reduceMul, Bool.not_true, Bool.not_false, L, b3, b6, b21, b22, b27]
    refine ⟨_, c_laws_toPageS p1 x28 h29, ?_⟩
    try simp +decide only [LX, E, reduceIte, Nat.reduceAdd, Nat.reduceMul, Bool.not_true, Bool.not_false, L, b3, b6, b21, b22, b27]
    refine ⟨_, c_laws_eqPageS x15 x28 x30 h31, ?_⟩
    try simp +decide only [LX, E, reduceIte, Nat.reduceAdd, Nat.reduceMul, Bool.not_true, Bool.not_false, L, b3, b6, b21, b22, b27]
    exact Is.mk _
  refine an ?_
  rcases bcase (!x30) with b32 | b32
  · replace h := ite_t b32 h
    refine SW_ct (by simp +decide only [LX, F, reduceIte, Nat.reduceAdd, Bool.not_true, Bool.not_false, b3, b6, b21, b22, b27, b32]) ?_
    refine sq ?_
    apply SW_run
    · simp +decide only [LX, E, reduceIte, Nat.reduceAdd, Nat.reduceMul, Bool.not_true, Bool.not_false, L, b3, b6, b21, b22, b27, b32]
      exact Is.mk _
    refine an (rt ?_)
    cases h
    simp [Ret, b3, b6, b21, b22, b27, b32]
  replace h := ite_f b32 h
  refine SW_cf (by simp +decide only [LX, F, reduceIte, Nat.reduceAdd, Bool.not_true, Bool.not_false, b3, b6, b21, b22, b27, b32]) ?_
  refine sk (an (sq ?_))
  apply SW_run
  · simp +decide only [LX, E, reduceIte, Nat.reduceAdd, Nat.reduceMul, Bool.not_true, Bool.not_false, L, b3, b6, b21, b22, b27, b32]
    exact Is.mk _
  refine an (sq ?_)
  obtain ⟨x33, h34, h⟩ := bind_some h
  refine SW_mark (n := 2) (x := 72) (y := 73) (d := 74) (ag := true) (cs := [.row 100042 1]) (k := 1) [1, 2, 3, 4, 10, 11, 13, 14, 15, 16] [4, 10, 14, 100038, 100044, 100050] rfl rfl rfl rfl rfl (by decide) ?_ ?_ ?_ (c_laws_markChannel x13 1 x33 h34) ?_ (by simp +decide [mkIds]) ?_ ?_ ?_ ?_ (s1 := ?S111) (s3 := ?S112)
  rotate_left 2
  · simp +decide only [LX, E, reduceIte, Nat.reduceAdd, Nat.reduceMul, Bool.not_true, Bool.not_false, L, ti30, b3, b6, b21, b22, b27, b32]
    exact Is.mk _
  · simp +decide only [LX, F, reduceIte, Nat.reduceAdd, Bool.not_true, Bool.not_false, b3, b6, b21, b22, b27, b32]
  · simp +decide only [LX, F, reduceIte, Nat.reduceAdd, Bool.not_true, Bool.not_false, b3, b6, b21, b22, b27, b32]
  · refine ⟨32, 3, List.map M.Mail.en x13.Mails, List.map M.Mail.en x33.1, _, _, by simp +decide only [LX, F, reduceIte, Nat.reduceAdd, Bool.not_true, Bool.not_false, b3, b6, b21, b22, b27, b32], mapLen (f := M.Mail.en) (fun _ => rfl) _, rfl, rfl, ?_⟩
    exact ⟨rfl, rfl⟩
  · simp +decide only [LC, LX, F, reduceIte, Nat.reduceAdd, Bool.not_true, Bool.not_false, b3, b6, b21, b22, b27, b32]
  · simp +decide only [LC, LX, F, reduceIte, Nat.reduceAdd, Bool.not_true, Bool.not_false, b3, b6, b21, b22, b27, b32]
  · simp +decide only [LX, E, reduceIte, Nat.reduceAdd, Nat.reduceMul, Bool.not_true, Bool.not_false, L, b3, b6, b21, b22, b27, b32]
    exact Is.mk _
  refine an (sq ?_)
  refine SW_cut (J := fun s => s.t 1 = .v false [.old base (.sl (List.map M.Page.en p1))] ∧ s.t 2 = .v false [.dat (.int .i64 p2)] ∧ s.t 3 = .v false [.dat (.int .i64 p3)] ∧ s.t 4 = .v false [.bp 4 1 0] ∧ s.t 10 = .v false [.bp 10 1 0] ∧ s.t 11 = .v false [.dat (.int .i64 x11.2)] ∧ s.t 13 = .v false [.row 100044 1] ∧ s.t 14 = .v false [.bp 14 1 0] ∧ s.t 15 = .v false [.dat (.int .i64 x17.2)] ∧ s.t 16 = .v false [.dat (.int .i64 x33.2)] ∧ s.h 4 = (1, .box 26 [.old base (.sl (List.map M.Mail.en p0.Mails))]) ∧ s.h 10 = (1, .box 30 [.row 100038 1]) ∧ s.h 14 = (1, .box 30 [.row 100050 1]) ∧ s.h 100038 = (1, .row 32 3 (List.map M.Mail.en x11.1.Mails) true) ∧ s.h 100044 = (1, .row 54 11 (List.map M.Page.en x15) true) ∧ s.h 100050 = (1, .row 32 3 (List.map M.Mail.en x17.1.Mails) true) ∧ True) ?_ ?_
  · refine ⟨?_, ?_, ?_, ?_, ?_, ?_, ?_, ?_, ?_, ?_, ?_, ?_, ?_, ?_, ?_, ?_, trivial⟩ <;> (try simp +decide only [LX, F, reduceIte, Nat.reduceAdd, Bool.not_true, Bool.not_false, M.Mail.en, M.Page.en, b3, b6, b21, b22, b27, b32])
  rintro s35 ⟨f36, f37, f38, f39, f40, f41, f42, f43, f44, f45, f46, f47, f48, f49, f50, f51, _⟩
  obtain ⟨x52, h53, h⟩ := bind_some h
  refine SW_mark (n := 2) (x := 75) (y := 76) (d := 77) (ag := false) (cs := [.row 100044 1]) (k := x33.2) [1, 2, 3, 4, 10, 11, 14, 15, 16] [4, 10, 14, 100038, 100050] rfl rfl rfl rfl rfl (by decide) ?_ ?_ ?_ (c_laws_markPageS x15 x33.2 x52 h53) ?_ (by simp +decide [mkIds]) ?_ ?_ ?_ ?_ (s1 := ?S109) (s3 := ?S110)
  rotate_left 2
  · simp +decide only [LX, E, reduceIte, Nat.reduceAdd, Nat.reduceMul, Bool.not_true, Bool.not_false, L, b3, b6, b21, b22, b27, b32, f36, f37, f38, f39, f40, f41, f42, f43, f44, f45, f46, f47, f48, f49, f50, f51]
    exact Is.mk _
  · simp +decide only [LX, F, reduceIte, Nat.reduceAdd, Bool.not_true, Bool.not_false, b3, b6, b21, b22, b27, b32, f36, f37, f38, f39, f40, f41, f42, f43, f44, f45, f46, f47, f48, f49, f50, f51]
  · simp +decide only [LX, F, reduceIte, Nat.reduceAdd, Bool.not_true, Bool.not_false, b3, b6, b21, b22, b27, b32, f36, f37, f38, f39, f40, f41, f42, f43, f44, f45, f46, f47, f48, f49, f50, f51]
  · refine ⟨54, 11, List.map M.Page.en x15, List.map M.Page.en x52.1, _, _, by simp +decide only [LX, F, reduceIte, Nat.reduceAdd, Bool.not_true, Bool.not_false, b3, b6, b21, b22, b27, b32, f36, f37, f38, f39, f40, f41, f42, f43, f44, f45, f46, f47, f48, f49, f50, f51], mapLen (f := M.Page.en) (fun _ => rfl) _, rfl, rfl, ?_⟩
    exact ⟨rfl, rfl⟩
  · simp +decide only [LC, LX, F, reduceIte, Nat.reduceAdd, Bool.not_true, Bool.not_false, b3, b6, b21, b22, b27, b32, f36, f37, f38, f39, f40, f41, f42, f43, f44, f45, f46, f47, f48, f49, f50, f51]
  · simp +decide only [LC, LX, F, reduceIte, Nat.reduceAdd, Bool.not_true, Bool.not_false, b3, b6, b21, b22, b27, b32, f36, f37, f38, f39, f40, f41, f42, f43, f44, f45, f46, f47, f48, f49, f50, f51]
  · simp +decide only [LX, E, reduceIte, Nat.reduceAdd, Nat.reduceMul, Bool.not_true, Bool.not_false, L, b3, b6, b21, b22, b27, b32, f36, f37, f38, f39, f40, f41, f42, f43, f44, f45, f46, f47, f48, f49, f50, f51]
    exact Is.mk _
  refine an (sq (sq ?_))
  refine SW_cut (J := fun s => s.t 1 = .v false [.old base (.sl (List.map M.Page.en p1))] ∧ s.t 2 = .v false [.dat (.int .i64 p2)] ∧ s.t 3 = .v false [.dat (.int .i64 p3)] ∧ s.t 4 = .v false [.bp 4 1 0] ∧ s.t 10 = .v false [.bp 10 1 0] ∧ s.t 11 = .v false [.dat (.int .i64 x11.2)] ∧ s.t 14 = .v false [.bp 14 1 0] ∧ s.t 15 = .v false [.dat (.int .i64 x17.2)] ∧ s.t 16 = .v false [.dat (.int .i64 x52.2)] ∧ s.h 4 = (1, .box 26 [.old base (.sl (List.map M.Mail.en p0.Mails))]) ∧ s.h 10 = (1, .box 30 [.row 100038 1]) ∧ s.h 14 = (1, .box 30 [.row 100050 1]) ∧ s.h 100038 = (1, .row 32 3 (List.map M.Mail.en x11.1.Mails) true) ∧ s.h 100050 = (1, .row 32 3 (List.map M.Mail.en x17.1.Mails) true) ∧ True) ?_ ?_
  · refine ⟨?_, ?_, ?_, ?_, ?_, ?_, ?_, ?_, ?_, ?_, ?_, ?_, ?_, ?_, trivial⟩ <;> (try simp +decide only [LX, F, reduceIte, Nat.reduceAdd, Bool.not_true, Bool.not_false, M.Mail.en, b3, b6, b21, b22, b27, b32, f36, f37, f38, f39, f40, f41, f42, f43, f44, f45, f46, f47, f48, f49, f50, f51])
  rintro s54 ⟨f55, f56, f57, f58, f59, f60, f61, f62, f63, f64, f65, f66, f67, f68, _⟩
  rcases bcase (decide (x52.2 < 0)) with b69 | b69
  · replace h := ite_t b69 h
    apply SW_run
    · simp +decide only [LX, E, reduceIte, Nat.reduceAdd, Nat.reduceMul, Bool.not_true, Bool.not_false, L, b3, b6, b21, b22, b27, b32, f55, f56, f57, f58, f59, f60, f61, f62, f63, f64, f65, f66, f67, f68, b69]
      exact Is.mk _
    refine an ?_
    refine SW_ct (by simp +decide only [LX, F, reduceIte, Nat.reduceAdd, Bool.not_true, Bool.not_false, b3, b6, b21, b22, b27, b32, f55, f56, f57, f58, f59, f60, f61, f62, f63, f64, f65, f66, f67, f68, b69]) ?_
    refine sq ?_
    apply SW_run
    · simp +decide only [LX, E, reduceIte, Nat.reduceAdd, Nat.reduceMul, Bool.not_true, Bool.not_false, L, b3, b6, b21, b22, b27, b32, f55, f56, f57, f58, f59, f60, f61, f62, f63, f64, f65, f66, f67, f68, b69]
      exact Is.mk _
    refine an (rt ?_)
    cases h
    simp [Ret, b3, b6, b21, b22, b27, b32, f55, f56, f57, f58, f59, f60, f61, f62, f63, f64, f65, f66, f67, f68, b69]
  replace h := ite_f b69 h
  obtain ⟨x70, h71, h⟩ := bind_some h
  rcases bcase (!x70) with b72 | b72
  · replace h := ite_t b72 h
    apply SW_run
    · simp +decide only [LX, E, reduceIte, Nat.reduceAdd, Nat.reduceMul, Bool.not_true, Bool.not_false, L, ti30, b3, b6, b21, b22, b27, b32, f55, f56, f57, f58, f59, f60, f61, f62, f63, f64, f65, f66, f67, f68, b69, b72]
      refine ⟨_, c_laws_eqChannel x17.1 x11.1 x70 h71, ?_⟩
      try simp +decide only [LX, E, reduceIte, Nat.reduceAdd, Nat.reduceMul, Bool.not_true, Bool.not_false, L, ti30, b3, b6, b21, b22, b27, b32, f55, f56, f57, f58, f59, f60, f61, f62, f63, f64, f65, f66, f67, f68, b69, b72]
      exact Is.mk _
    refine an ?_
    refine SW_ct (by simp +decide only [LX, F, reduceIte, Nat.reduceAdd, Bool.not_true, Bool.not_false, b3, b6, b21, b22, b27, b32, f55, f56, f57, f58, f59, f60, f61, f62, f63, f64, f65, f66, f67, f68, b69, b72]) ?_
    refine sq ?_
    apply SW_run
    · simp +decide only [LX, E, reduceIte, Nat.reduceAdd, Nat.reduceMul, Bool.not_true, Bool.not_false, L, b3, b6, b21, b22, b27, b32, f55, f56, f57, f58, f59, f60, f61, f62, f63, f64, f65, f66, f67, f68, b69, b72]
      exact Is.mk _
    refine an (rt ?_)
    cases h
    simp [Ret, b3, b6, b21, b22, b27, b32, f55, f56, f57, f58, f59, f60, f61, f62, f63, f64, f65, f66, f67, f68, b69, b72]
  replace h := ite_f b72 h
  apply SW_run
  · simp +decide only [LX, E, reduceIte, Nat.reduceAdd, Nat.reduceMul, Bool.not_true, Bool.not_false, L, ti30, b3, b6, b21, b22, b27, b32, f55, f56, f57, f58, f59, f60, f61, f62, f63, f64, f65, f66, f67, f68, b69, b72]
    refine ⟨_, c_laws_eqChannel x17.1 x11.1 x70 h71, ?_⟩
    try simp +decide only [LX, E, reduceIte, Nat.reduceAdd, Nat.reduceMul, Bool.not_true, Bool.not_false, L, ti30, b3, b6, b21, b22, b27, b32, f55, f56, f57, f58, f59, f60, f61, f62, f63, f64, f65, f66, f67, f68, b69, b72]
    exact Is.mk _
  refine an ?_
  refine SW_cf (by simp +decide only [LX, F, reduceIte, Nat.reduceAdd, Bool.not_true, Bool.not_false, b3, b6, b21, b22, b27, b32, f55, f56, f57, f58, f59, f60, f61, f62, f63, f64, f65, f66, f67, f68, b69, b72]) ?_
  refine sk (an (sq ?_))
  apply SW_run
  · simp +decide only [LX, E, reduceIte, Nat.reduceAdd, Nat.reduceMul, Bool.not_true, Bool.not_false, L, b3, b6, b21, b22, b27, b32, f55, f56, f57, f58, f59, f60, f61, f62, f63, f64, f65, f66, f67, f68, b69, b72]
    exact Is.mk _
  refine an (sq ?_)
  obtain ⟨x73, h74, h⟩ := bind_some h
  refine SW_mark (n := 2) (x := 91) (y := 92) (d := 93) (ag := true) (cs := [.row 100050 1]) (k := 1) [1, 2, 3, 4, 10, 11, 14, 17] [4, 10, 14, 100038, 100050] rfl rfl rfl rfl rfl (by decide) ?_ ?_ ?_ (c_laws_markChannel x17.1 1 x73 h74) ?_ (by simp +decide [mkIds]) ?_ ?_ ?_ ?_ (s1 := ?S107) (s3 := ?S108)
  rotate_left 2
  · simp +decide only [LX, E, reduceIte, Nat.reduceAdd, Nat.reduceMul, Bool.not_true, Bool.not_false, L, ti30, b3, b6, b21, b22, b27, b32, f55, f56, f57, f58, f59, f60, f61, f62, f63, f64, f65, f66, f67, f68, b69, b72]
    exact Is.mk _
  · simp +decide only [LX, F, reduceIte, Nat.reduceAdd, Bool.not_true, Bool.not_false, b3, b6, b21, b22, b27, b32, f55, f56, f57, f58, f59, f60, f61, f62, f63, f64, f65, f66, f67, f68, b69, b72]
  · simp +decide only [LX, F, reduceIte, Nat.reduceAdd, Bool.not_true, Bool.not_false, b3, b6, b21, b22, b27, b32, f55, f56, f57, f58, f59, f60, f61, f62, f63, f64, f65, f66, f67, f68, b69, b72]
  · refine ⟨32, 3, List.map M.Mail.en x17.1.Mails, List.map M.Mail.en x73.1, _, _, by simp +decide only [LX, F, reduceIte, Nat.reduceAdd, Bool.not_true, Bool.not_false, b3, b6, b21, b22, b27, b32, f55, f56, f57, f58, f59, f60, f61, f62, f63, f64, f65, f66, f67, f68, b69, b72], mapLen (f := M.Mail.en) (fun _ => rfl) _, rfl, rfl, ?_⟩
    exact ⟨rfl, rfl⟩
  · simp +decide only [LC, LX, F, reduceIte, Nat.reduceAdd, Bool.not_true, Bool.not_false, b3, b6, b21, b22, b27, b32, f55, f56, f57, f58, f59, f60, f61, f62, f63, f64, f65, f66, f67, f68, b69, b72]
  · simp +decide only [LC, LX, F, reduceIte, Nat.reduceAdd, Bool.not_true, Bool.not_false, b3, b6, b21, b22, b27, b32, f55, f56, f57, f58, f59, f60, f61, f62, f63, f64, f65, f66, f67, f68, b69, b72]
  · simp +decide only [LX, E, reduceIte, Nat.reduceAdd, Nat.reduceMul, Bool.not_true, Bool.not_false, L, b3, b6, b21, b22, b27, b32, f55, f56, f57, f58, f59, f60, f61, f62, f63, f64, f65, f66, f67, f68, b69, b72]
    exact Is.mk _
  refine an (sq ?_)
  refine SW_cut (J := fun s => s.t 1 = .v false [.old base (.sl (List.map M.Page.en p1))] ∧ s.t 2 = .v false [.dat (.int .i64 p2)] ∧ s.t 3 = .v false [.dat (.int .i64 p3)] ∧ s.t 4 = .v false [.bp 4 1 0] ∧ s.t 10 = .v false [.bp 10 1 0] ∧ s.t 11 = .v false [.dat (.int .i64 x11.2)] ∧ s.t 14 = .v false [.bp 14 1 0] ∧ s.t 17 = .v false [.dat (.int .i64 x73.2)] ∧ s.h 4 = (1, .box 26 [.old base (.sl (List.map M.Mail.en p0.Mails))]) ∧ s.h 10 = (1, .box 30 [.row 100038 1]) ∧ s.h 14 = (1, .box 30 [.row 100050 1]) ∧ s.h 100038 = (1, .row 32 3 (List.map M.Mail.en x11.1.Mails) true) ∧ s.h 100050 = (1, .row 32 3 (List.map M.Mail.en x73.1) true) ∧ True) ?_ ?_
  · refine ⟨?_, ?_, ?_, ?_, ?_, ?_, ?_, ?_, ?_, ?_, ?_, ?_, ?_, trivial⟩ <;> (try simp +decide only [LX, F, reduceIte, Nat.reduceAdd, Bool.not_true, Bool.not_false, M.Mail.en, b3, b6, b21, b22, b27, b32, f55, f56, f57, f58, f59, f60, f61, f62, f63, f64, f65, f66, f67, f68, b69, b72])
  rintro s75 ⟨f76, f77, f78, f79, f80, f81, f82, f83, f84, f85, f86, f87, f88, _⟩
  apply SW_run
  · simp +decide only [LX, E, reduceIte, Nat.reduceAdd, Nat.reduceMul, Bool.not_true, Bool.not_false, L, b3, b6, b21, b22, b27, b32, b69, b72, f76, f77, f78, f79, f80, f81, f82, f83, f84, f85, f86, f87, f88]
    exact Is.mk _
  refine an (sq ?_)
  obtain ⟨x89, h90, h⟩ := bind_some h
  apply SW_run
  · simp +decide only [LX, E, reduceIte, Nat.reduceAdd, Nat.reduceMul, Bool.not_true, Bool.not_false, L, ti30, b3, b6, b21, b22, b27, b32, b69, b72, f76, f77, f78, f79, f80, f81, f82, f83, f84, f85, f86, f87, f88]
    refine ⟨_, c_laws_heldChannel (⟨x73.1⟩ : M.Channel) 1 x89 h90, ?_⟩
    try simp +decide only [LX, E, reduceIte, Nat.reduceAdd, Nat.reduceMul, Bool.not_true, Bool.not_false, L, ti30, b3, b6, b21, b22, b27, b32, b69, b72, f76, f77, f78, f79, f80, f81, f82, f83, f84, f85, f86, f87, f88]
    exact Is.mk _
  refine an (sq (sq ?_))
  apply SW_run
  · simp +decide only [LX, E, reduceIte, Nat.reduceAdd, Nat.reduceMul, Bool.not_true, Bool.not_false, L, b3, b6, b21, b22, b27, b32, b69, b72, f76, f77, f78, f79, f80, f81, f82, f83, f84, f85, f86, f87, f88]
    exact Is.mk _
  refine an ?_
  rcases bcase (decide (x89 < 0)) with b91 | b91
  · replace h := ite_t b91 h
    refine SW_ct (by simp +decide only [LX, F, reduceIte, Nat.reduceAdd, Bool.not_true, Bool.not_false, b3, b6, b21, b22, b27, b32, b69, b72, f76, f77, f78, f79, f80, f81, f82, f83, f84, f85, f86, f87, f88, b91]) ?_
    refine sq ?_
    apply SW_run
    · simp +decide only [LX, E, reduceIte, Nat.reduceAdd, Nat.reduceMul, Bool.not_true, Bool.not_false, L, b3, b6, b21, b22, b27, b32, b69, b72, f76, f77, f78, f79, f80, f81, f82, f83, f84, f85, f86, f87, f88, b91]
      exact Is.mk _
    refine an (rt ?_)
    cases h
    simp [Ret, b3, b6, b21, b22, b27, b32, b69, b72, f76, f77, f78, f79, f80, f81, f82, f83, f84, f85, f86, f87, f88, b91]
  replace h := ite_f b91 h
  refine SW_cf (by simp +decide only [LX, F, reduceIte, Nat.reduceAdd, Bool.not_true, Bool.not_false, b3, b6, b21, b22, b27, b32, b69, b72, f76, f77, f78, f79, f80, f81, f82, f83, f84, f85, f86, f87, f88, b91]) ?_
  refine sk (an (sq (sq ?_)))
  apply SW_run
  · simp +decide only [LX, E, reduceIte, Nat.reduceAdd, Nat.reduceMul, Bool.not_true, Bool.not_false, L, b3, b6, b21, b22, b27, b32, b69, b72, f76, f77, f78, f79, f80, f81, f82, f83, f84, f85, f86, f87, f88, b91]
    exact Is.mk _
  refine an ?_
  rcases bcase (x89 != x73.2) with b92 | b92
  · replace h := ite_t b92 h
    refine SW_ct (by simp +decide only [LX, F, reduceIte, Nat.reduceAdd, Bool.not_true, Bool.not_false, b3, b6, b21, b22, b27, b32, b69, b72, f76, f77, f78, f79, f80, f81, f82, f83, f84, f85, f86, f87, f88, b91, b92]) ?_
    refine sq ?_
    apply SW_run
    · simp +decide only [LX, E, reduceIte, Nat.reduceAdd, Nat.reduceMul, Bool.not_true, Bool.not_false, L, b3, b6, b21, b22, b27, b32, b69, b72, f76, f77, f78, f79, f80, f81, f82, f83, f84, f85, f86, f87, f88, b91, b92]
      exact Is.mk _
    refine an (rt ?_)
    cases h
    simp [Ret, b3, b6, b21, b22, b27, b32, b69, b72, f76, f77, f78, f79, f80, f81, f82, f83, f84, f85, f86, f87, f88, b91, b92]
  replace h := ite_f b92 h
  refine SW_cf (by simp +decide only [LX, F, reduceIte, Nat.reduceAdd, Bool.not_true, Bool.not_false, b3, b6, b21, b22, b27, b32, b69, b72, f76, f77, f78, f79, f80, f81, f82, f83, f84, f85, f86, f87, f88, b91, b92]) ?_
  refine sk (an (sq ?_))
  obtain ⟨x93, h94, h⟩ := bind_some h
  obtain ⟨x95, h96, h⟩ := bind_some h
  obtain ⟨x97, h98, h⟩ := bind_some h
  apply SW_run
  · simp +decide only [LX, E, reduceIte, Nat.reduceAdd, Nat.reduceMul, Bool.not_true, Bool.not_false, L, ti26, ti30, b3, b6, b21, b22, b27, b32, b69, b72, f76, f77, f78, f79, f80, f81, f82, f83, f84, f85, f86, f87, f88, b91, b92]
    refine ⟨_, c_laws_toChannel p0 x93 h94, ?_⟩
    try simp +decide only [LX, E, reduceIte, Nat.reduceAdd, Nat.reduceMul, Bool.not_true, Bool.not_false, L, ti26, ti30, b3, b6, b21, b22, b27, b32, b69, b72, f76, f77, f78, f79, f80, f81, f82, f83, f84, f85, f86, f87, f88, b91, b92]
    refine ⟨_, c_laws_toPageS p1 x95 h96, ?_⟩
    try simp +decide only [LX, E, reduceIte, Nat.reduceAdd, Nat.reduceMul, Bool.not_true, Bool.not_false, L, ti26, ti30, b3, b6, b21, b22, b27, b32, b69, b72, f76, f77, f78, f79, f80, f81, f82, f83, f84, f85, f86, f87, f88, b91, b92]
    refine ⟨_, c_impl_Broadcast x93 x95 p2 p3 x97 h98, ?_⟩
    try simp +decide only [LX, E, reduceIte, Nat.reduceAdd, Nat.reduceMul, Bool.not_true, Bool.not_false, L, ti26, ti30, b3, b6, b21, b22, b27, b32, b69, b72, f76, f77, f78, f79, f80, f81, f82, f83, f84, f85, f86, f87, f88, b91, b92]
    exact Is.mk _
  refine an (sq (sq ?_))
  obtain ⟨x99, h100, h⟩ := bind_some h
  rcases bcase (!x99) with b101 | b101
  · replace h := ite_t b101 h
    apply SW_run
    · simp +decide only [LX, E, reduceIte, Nat.reduceAdd, Nat.reduceMul, Bool.not_true, Bool.not_false, L, ti30, b3, b6, b21, b22, b27, b32, b69, b72, f76, f77, f78, f79, f80, f81, f82, f83, f84, f85, f86, f87, f88, b91, b92, b101]
      refine ⟨_, c_laws_eqChannel x97.1 x11.1 x99 h100, ?_⟩
      try simp +decide only [LX, E, reduceIte, Nat.reduceAdd, Nat.reduceMul, Bool.not_true, Bool.not_false, L, ti30, b3, b6, b21, b22, b27, b32, b69, b72, f76, f77, f78, f79, f80, f81, f82, f83, f84, f85, f86, f87, f88, b91, b92, b101]
      exact Is.mk _
    refine an ?_
    refine SW_ct (by simp +decide only [LX, F, reduceIte, Nat.reduceAdd, Bool.not_true, Bool.not_false, b3, b6, b21, b22, b27, b32, b69, b72, f76, f77, f78, f79, f80, f81, f82, f83, f84, f85, f86, f87, f88, b91, b92, b101]) ?_
    refine sq ?_
    apply SW_run
    · simp +decide only [LX, E, reduceIte, Nat.reduceAdd, Nat.reduceMul, Bool.not_true, Bool.not_false, L, b3, b6, b21, b22, b27, b32, b69, b72, f76, f77, f78, f79, f80, f81, f82, f83, f84, f85, f86, f87, f88, b91, b92, b101]
      exact Is.mk _
    refine an (rt ?_)
    cases h
    simp [Ret, b3, b6, b21, b22, b27, b32, b69, b72, f76, f77, f78, f79, f80, f81, f82, f83, f84, f85, f86, f87, f88, b91, b92, b101]
  replace h := ite_f b101 h
  apply SW_run
  · simp +decide only [LX, E, reduceIte, Nat.reduceAdd, Nat.reduceMul, Bool.not_true, Bool.not_false, L, ti30, b3, b6, b21, b22, b27, b32, b69, b72, f76, f77, f78, f79, f80, f81, f82, f83, f84, f85, f86, f87, f88, b91, b92, b101]
    refine ⟨_, c_laws_eqChannel x97.1 x11.1 x99 h100, ?_⟩
    try simp +decide only [LX, E, reduceIte, Nat.reduceAdd, Nat.reduceMul, Bool.not_true, Bool.not_false, L, ti30, b3, b6, b21, b22, b27, b32, b69, b72, f76, f77, f78, f79, f80, f81, f82, f83, f84, f85, f86, f87, f88, b91, b92, b101]
    exact Is.mk _
  refine an ?_
  rcases bcase (x97.2 != x11.2) with b102 | b102
  · replace h := ite_t b102 h
    refine SW_ct (by simp +decide only [LX, F, reduceIte, Nat.reduceAdd, Bool.not_true, Bool.not_false, b3, b6, b21, b22, b27, b32, b69, b72, f76, f77, f78, f79, f80, f81, f82, f83, f84, f85, f86, f87, f88, b91, b92, b101, b102]) ?_
    refine sq ?_
    apply SW_run
    · simp +decide only [LX, E, reduceIte, Nat.reduceAdd, Nat.reduceMul, Bool.not_true, Bool.not_false, L, b3, b6, b21, b22, b27, b32, b69, b72, f76, f77, f78, f79, f80, f81, f82, f83, f84, f85, f86, f87, f88, b91, b92, b101, b102]
      exact Is.mk _
    refine an (rt ?_)
    cases h
    simp [Ret, b3, b6, b21, b22, b27, b32, b69, b72, f76, f77, f78, f79, f80, f81, f82, f83, f84, f85, f86, f87, f88, b91, b92, b101, b102]
  replace h := ite_f b102 h
  refine SW_cf (by simp +decide only [LX, F, reduceIte, Nat.reduceAdd, Bool.not_true, Bool.not_false, b3, b6, b21, b22, b27, b32, b69, b72, f76, f77, f78, f79, f80, f81, f82, f83, f84, f85, f86, f87, f88, b91, b92, b101, b102]) ?_
  refine sk (an (sq ?_))
  apply SW_run
  · simp +decide only [LX, E, reduceIte, Nat.reduceAdd, Nat.reduceMul, Bool.not_true, Bool.not_false, L, b3, b6, b21, b22, b27, b32, b69, b72, f76, f77, f78, f79, f80, f81, f82, f83, f84, f85, f86, f87, f88, b91, b92, b101, b102]
    exact Is.mk _
  refine an (sq ?_)
  obtain ⟨x103, h104, h⟩ := bind_some h
  apply SW_run
  · simp +decide only [LX, E, reduceIte, Nat.reduceAdd, Nat.reduceMul, Bool.not_true, Bool.not_false, L, ti30, b3, b6, b21, b22, b27, b32, b69, b72, f76, f77, f78, f79, f80, f81, f82, f83, f84, f85, f86, f87, f88, b91, b92, b101, b102]
    refine ⟨_, c_laws_heldChannel (⟨x73.1⟩ : M.Channel) 1 x103 h104, ?_⟩
    try simp +decide only [LX, E, reduceIte, Nat.reduceAdd, Nat.reduceMul, Bool.not_true, Bool.not_false, L, ti30, b3, b6, b21, b22, b27, b32, b69, b72, f76, f77, f78, f79, f80, f81, f82, f83, f84, f85, f86, f87, f88, b91, b92, b101, b102]
    exact Is.mk _
  refine an (sq (sq ?_))
  apply SW_run
  · simp +decide only [LX, E, reduceIte, Nat.reduceAdd, Nat.reduceMul, Bool.not_true, Bool.not_false, L, b3, b6, b21, b22, b27, b32, b69, b72, f76, f77, f78, f79, f80, f81, f82, f83, f84, f85, f86, f87, f88, b91, b92, b101, b102]
    exact Is.mk _
  refine an ?_
  rcases bcase (decide (x103 < 0)) with b105 | b105
  · replace h := ite_t b105 h
    refine SW_ct (by simp +decide only [LX, F, reduceIte, Nat.reduceAdd, Bool.not_true, Bool.not_false, b3, b6, b21, b22, b27, b32, b69, b72, f76, f77, f78, f79, f80, f81, f82, f83, f84, f85, f86, f87, f88, b91, b92, b101, b102, b105]) ?_
    refine sq ?_
    apply SW_run
    · simp +decide only [LX, E, reduceIte, Nat.reduceAdd, Nat.reduceMul, Bool.not_true, Bool.not_false, L, b3, b6, b21, b22, b27, b32, b69, b72, f76, f77, f78, f79, f80, f81, f82, f83, f84, f85, f86, f87, f88, b91, b92, b101, b102, b105]
      exact Is.mk _
    refine an (rt ?_)
    cases h
    simp [Ret, b3, b6, b21, b22, b27, b32, b69, b72, f76, f77, f78, f79, f80, f81, f82, f83, f84, f85, f86, f87, f88, b91, b92, b101, b102, b105]
  replace h := ite_f b105 h
  refine SW_cf (by simp +decide only [LX, F, reduceIte, Nat.reduceAdd, Bool.not_true, Bool.not_false, b3, b6, b21, b22, b27, b32, b69, b72, f76, f77, f78, f79, f80, f81, f82, f83, f84, f85, f86, f87, f88, b91, b92, b101, b102, b105]) ?_
  refine sk (an (sq (sq ?_)))
  apply SW_run
  · simp +decide only [LX, E, reduceIte, Nat.reduceAdd, Nat.reduceMul, Bool.not_true, Bool.not_false, L, b3, b6, b21, b22, b27, b32, b69, b72, f76, f77, f78, f79, f80, f81, f82, f83, f84, f85, f86, f87, f88, b91, b92, b101, b102, b105]
    exact Is.mk _
  refine an ?_
  rcases bcase (x103 != x73.2) with b106 | b106
  · replace h := ite_t b106 h
    refine SW_ct (by simp +decide only [LX, F, reduceIte, Nat.reduceAdd, Bool.not_true, Bool.not_false, b3, b6, b21, b22, b27, b32, b69, b72, f76, f77, f78, f79, f80, f81, f82, f83, f84, f85, f86, f87, f88, b91, b92, b101, b102, b105, b106]) ?_
    refine sq ?_
    apply SW_run
    · simp +decide only [LX, E, reduceIte, Nat.reduceAdd, Nat.reduceMul, Bool.not_true, Bool.not_false, L, b3, b6, b21, b22, b27, b32, b69, b72, f76, f77, f78, f79, f80, f81, f82, f83, f84, f85, f86, f87, f88, b91, b92, b101, b102, b105, b106]
      exact Is.mk _
    refine an (rt ?_)
    cases h
    simp [Ret, b3, b6, b21, b22, b27, b32, b69, b72, f76, f77, f78, f79, f80, f81, f82, f83, f84, f85, f86, f87, f88, b91, b92, b101, b102, b105, b106]
  replace h := ite_f b106 h
  refine SW_cf (by simp +decide only [LX, F, reduceIte, Nat.reduceAdd, Bool.not_true, Bool.not_false, b3, b6, b21, b22, b27, b32, b69, b72, f76, f77, f78, f79, f80, f81, f82, f83, f84, f85, f86, f87, f88, b91, b92, b101, b102, b105, b106]) ?_
  refine sk (an (sq ?_))
  apply SW_run
  · simp +decide only [LX, E, reduceIte, Nat.reduceAdd, Nat.reduceMul, Bool.not_true, Bool.not_false, L, b3, b6, b21, b22, b27, b32, b69, b72, f76, f77, f78, f79, f80, f81, f82, f83, f84, f85, f86, f87, f88, b91, b92, b101, b102, b105, b106]
    exact Is.mk _
  refine an (rt ?_)
  cases h
  simp [Ret, b3, b6, b21, b22, b27, b32, b69, b72, f76, f77, f78, f79, f80, f81, f82, f83, f84, f85, f86, f87, f88, b91, b92, b101, b102, b105, b106]

end Go.Proofs.Ytfcfdnmhpdgjfaa.gen
