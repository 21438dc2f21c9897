/-
  Helper text: walks: each function's contract out of its model. No conditions beyond those of each contract.
-/
import Derived.Test.YtfcfdnmhpdgjfaaBroadcastTi
namespace Go.Proofs.Ytfcfdnmhpdgjfaa.gen
open Go Go.Sh
set_option linter.unusedVariables false
set_option linter.unusedSimpArgs false
set_option maxHeartbeats 4000000 in
theorem c_laws_markMailS (p0 : List M.Mail) (p1 : Int) (r : (List M.Mail × Int)) (h : m_laws_markMailS p0 p1 = some r) : MCalls Try.prog 52 false ([.sl (List.map M.Mail.en p0)]) ([.sl (List.map M.Mail.en r.1)]) p1 r.2 := by
  unfold m_laws_markMailS at h
  refine mcalls_of (N := 34) (r := 4) Try.func52 rfl rfl rfl (by decide +kernel) (by decide) fun cx => ?_
  refine msq ?_
  apply MW_run
  · simp +decide only [ME, E, reduceIte, Nat.reduceAdd, Nat.reduceMul, Bool.not_true, Bool.not_false, L]
    exact MIs.mk _
  refine man (msq (msq ?_))
  apply MW_run
  · simp +decide only [ME, E, reduceIte, Nat.reduceAdd, Nat.reduceMul, Bool.not_true, Bool.not_false, L]
    exact MIs.mk _
  refine man (mbk ?_)
  refine MW_loop (fun m s => ∃ v1 : Int, ∃ v5 : Int, ∃ r99 : List M.Mail, s.t 0 = .unk ∧ s.m 0 = some (.top 0) ∧ s.t 1 = .v false [.dat (.int .i64 v1)] ∧ s.t 5 = .v false [.dat (.int .i64 v5)] ∧ s.ds = [.sl (List.map M.Mail.en r99)] ∧ m_laws_markMailS_L1 m v1 v5 r99 = some r) fuel ?_ ?_
  · refine ⟨p1, 0, p0, ?_, ?_, ?_, ?_, ?_, h⟩
    all_goals simp +decide only [MF, F, reduceIte, Nat.reduceAdd, Bool.not_true, Bool.not_false, M.Mail.en]
  rintro mL1 s1 ⟨v1, v5, r99, f2, f3, f4, f5, f6, h⟩
  rcases mL1 with _ | mL1
  · exact absurd h (by simp [m_laws_markMailS_L1])
  simp only [m_laws_markMailS_L1] at h
  refine msq (msq ?_)
  apply MW_run
  · simp +decide only [ME, E, reduceIte, Nat.reduceAdd, Nat.reduceMul, Bool.not_true, Bool.not_false, L, ti28, f2, f3, f4, f5, f6]
    exact MIs.mk _
  refine man ?_
  rcases bcas (decide (v5 < (List.length r99 : Int))) with b7 | b7
  · replace h := ite_f b7 h
    refine MW_cf (by simp +decide only [MF, F, reduceIte, Nat.reduceAdd, Bool.not_true, Bool.not_false, f2, f3, f4, f5, f6, b7]) ?_
    refine mxt (maft_cx (maft_ix (maft_x (man (msq ?_)))))
    apply MW_run
    · simp +decide only [ME, E, reduceIte, Nat.reduceAdd, Nat.reduceMul, Bool.not_true, Bool.not_false, L, f2, f3, f4, f5, f6, b7]
      exact MIs.mk _
    refine man (mrt ?_)
    cases h
    refine ⟨?_, ?_⟩ <;> (try simp +decide only [MF, F, ME, reduceIte, Nat.reduceAdd, M.Mail.en, f2, f3, f4, f5, f6, b7])
  replace h := ite_t b7 h
  refine MW_ct (by simp +decide only [MF, F, reduceIte, Nat.reduceAdd, Bool.not_true, Bool.not_false, f2, f3, f4, f5, f6, b7]) ?_
  refine msk (man (msq (mbk (msq ?_))))
  obtain ⟨x8, h9, h⟩ := bind_some h
  obtain ⟨q10, q11, q12⟩ := idx_some h9
  apply MW_run
  · simp +decide only [ME, E, reduceIte, Nat.reduceAdd, Nat.reduceMul, Bool.not_true, Bool.not_false, L, ti3, ti28, ti32, M.Mail.en, f2, f3, f4, f5, f6, b7, q10, q11, q12]
    exact MIs.mk _
  obtain ⟨y13, e14, h⟩ := bind_some h
  replace e14 := Option.some.inj e14
  refine man (msq ?_)
  refine MW_cut (J := fun s => s.t 0 = .unk ∧ s.m 0 = some (.top 0) ∧ s.t 1 = .v false [.dat (.int .i64 v1)] ∧ s.t 5 = .v false [.dat (.int .i64 v5)] ∧ s.ds = [.sl (List.map M.Mail.en y13)] ∧ True) ?_ ?_
  · subst e14
    refine ⟨?_, ?_, ?_, ?_, ?_, trivial⟩ <;> (try simp +decide only [MF, F, reduceIte, Nat.reduceAdd, Bool.not_true, Bool.not_false, M.Mail.en, f2, f3, f4, f5, f6, b7, q10, q11, q12])
  rintro s15 ⟨f16, f17, f18, f19, f20, _⟩
  apply MW_run
  · simp +decide only [ME, E, reduceIte, Nat.reduceAdd, Nat.reduceMul, Bool.not_true, Bool.not_false, L, b7, q10, q11, q12, f16, f17, f18, f19, f20]
    exact MIs.mk _
  refine man (msq ?_)
  obtain ⟨x21, h22, h⟩ := bind_some h
  obtain ⟨q23, q24, q25⟩ := idx_some h22
  apply MW_run
  · simp +decide only [ME, E, reduceIte, Nat.reduceAdd, Nat.reduceMul, Bool.not_true, Bool.not_false, L, ti3, ti28, ti32, M.Mail.en, b7, q10, q11, q12, f16, f17, f18, f19, f20, q23, q24, q25]
    exact MIs.mk _
  obtain ⟨y26, e27, h⟩ := bind_some h
  replace e27 := Option.some.inj e27
  refine man (msq ?_)
  refine MW_cut (J := fun s => s.t 0 = .unk ∧ s.m 0 = some (.top 0) ∧ s.t 1 = .v false [.dat (.int .i64 (IntKind.i64.wrap (v1 + 1)))] ∧ s.t 5 = .v false [.dat (.int .i64 v5)] ∧ s.ds = [.sl (List.map M.Mail.en y26)] ∧ True) ?_ ?_
  · subst e27
    refine ⟨?_, ?_, ?_, ?_, ?_, trivial⟩ <;> (try simp +decide only [MF, F, reduceIte, Nat.reduceAdd, Bool.not_true, Bool.not_false, M.Mail.en, b7, q10, q11, q12, f16, f17, f18, f19, f20, q23, q24, q25])
  rintro s28 ⟨f29, f30, f31, f32, f33, _⟩
  apply MW_run
  · simp +decide only [ME, E, reduceIte, Nat.reduceAdd, Nat.reduceMul, Bool.not_true, Bool.not_false, L, b7, q10, q11, q12, q23, q24, q25, f29, f30, f31, f32, f33]
    exact MIs.mk _
  refine man (msq ?_)
  obtain ⟨x34, h35, h⟩ := bind_some h
  obtain ⟨q36, q37, q38⟩ := idx_some h35
  apply MW_run
  · simp +decide only [ME, E, reduceIte, Nat.reduceAdd, Nat.reduceMul, Bool.not_true, Bool.not_false, L, ti3, ti28, ti32, M.Mail.en, b7, q10, q11, q12, q23, q24, q25, f29, f30, f31, f32, f33, q36, q37, q38]
    exact MIs.mk _
  obtain ⟨y39, e40, h⟩ := bind_some h
  replace e40 := Option.some.inj e40
  refine man ?_
  refine MW_cut (J := fun s => s.t 0 = .unk ∧ s.m 0 = some (.top 0) ∧ s.t 1 = .v false [.dat (.int .i64 (IntKind.i64.wrap ((IntKind.i64.wrap (v1 + 1)) + 1)))] ∧ s.t 5 = .v false [.dat (.int .i64 v5)] ∧ s.ds = [.sl (List.map M.Mail.en y39)] ∧ True) ?_ ?_
  · subst e40
    refine ⟨?_, ?_, ?_, ?_, ?_, trivial⟩ <;> (try simp +decide only [MF, F, reduceIte, Nat.reduceAdd, Bool.not_true, Bool.not_false, M.Mail.en, b7, q10, q11, q12, q23, q24, q25, f29, f30, f31, f32, f33, q36, q37, q38])
  rintro s41 ⟨f42, f43, f44, f45, f46, _⟩
  apply MW_run
  · simp +decide only [ME, E, reduceIte, Nat.reduceAdd, Nat.reduceMul, Bool.not_true, Bool.not_false, L, b7, q10, q11, q12, q23, q24, q25, q36, q37, q38, f42, f43, f44, f45, f46]
    exact MIs.mk _
  refine mab (man ?_)
  apply MW_run
  · simp +decide only [ME, E, reduceIte, Nat.reduceAdd, Nat.reduceMul, Bool.not_true, Bool.not_false, L, b7, q10, q11, q12, q23, q24, q25, q36, q37, q38, f42, f43, f44, f45, f46]
    exact MIs.mk _
  refine maft_i ⟨mL1, by omega, (IntKind.i64.wrap ((IntKind.i64.wrap ((IntKind.i64.wrap (v1 + 1)) + 1)) + 1)), (IntKind.i64.wrap (v5 + 1)), y39, ?_, ?_, ?_, ?_, ?_, h⟩
  all_goals simp +decide only [MF, F, reduceIte, Nat.reduceAdd, Bool.not_true, Bool.not_false, M.Mail.en, b7, q10, q11, q12, q23, q24, q25, q36, q37, q38, f42, f43, f44, f45, f46]

set_option maxHeartbeats 4000000 in
theorem c_laws_markChannel (p0 : M.Channel) (p1 : Int) (r : (List M.Mail × Int)) (h : m_laws_markChannel p0 p1 = some r) : MCalls Try.prog 17 true (M.Channel.en p0) ([.sl (List.map M.Mail.en r.1)]) p1 r.2 := by
  unfold m_laws_markChannel at h
  simp only [M.Channel.en]
  refine mcalls_of (N := 10) (r := 4) Try.func17 rfl rfl rfl (by decide +kernel) (by decide) fun cx => ?_
  refine msq ?_
  apply MW_run
  · simp +decide only [ME, E, reduceIte, Nat.reduceAdd, Nat.reduceMul, Bool.not_true, Bool.not_false, L]
    exact MIs.mk _
  refine man (msq ?_)
  obtain ⟨x1, h2, h⟩ := bind_some h
  apply MW_run
  · simp +decide only [ME, E, reduceIte, Nat.reduceAdd, Nat.reduceMul, Bool.not_true, Bool.not_false, L, ti28, ti30]
    refine ⟨_, _, c_laws_markMailS p0.Mails p1 x1 h2, ?_⟩
    try simp +decide only [ME, E, reduceIte, Nat.reduceAdd, Nat.reduceMul, Bool.not_true, Bool.not_false, L, ti28, ti30]
    exact MIs.mk _
  refine man (msq ?_)
  apply MW_run
  · simp +decide only [ME, E, reduceIte, Nat.reduceAdd, Nat.reduceMul, Bool.not_true, Bool.not_false, L]
    exact MIs.mk _
  refine man (mrt ?_)
  cases h
  refine ⟨?_, ?_⟩ <;> (try simp +decide only [MF, F, ME, reduceIte, Nat.reduceAdd, M.Channel.en])

set_option maxHeartbeats 4000000 in
theorem c_laws_markText (p0 : Int) (r : ByteArray) (h : m_laws_markText p0 = some r) : SCalls Try.prog 84 [(false, [.int .i64 p0])] [(false, [.ro (.str r)])] := by
  unfold m_laws_markText at h
  refine scalls_n (N := 20) (vars := [.tmp 2]) Try.func84 rfl rfl rfl (by decide +kernel) (Nat.le_of_ble_eq_true rfl) fun base wd => ?_
  refine sq ?_
  apply SW_run
  · simp +decide only [E, reduceIte, Nat.reduceAdd, Nat.reduceMul, Bool.not_true, Bool.not_false, L]
    exact Is.mk _
  refine an (sq (sq ?_))
  apply SW_run
  · simp +decide only [E, reduceIte, Nat.reduceAdd, Nat.reduceMul, Bool.not_true, Bool.not_false, L]
    exact Is.mk _
  refine an ?_
  rcases bcase (decide (p0 ≤ 0)) with b1 | b1
  · replace h := ite_t b1 h
    refine SW_ct (by simp +decide only [F, reduceIte, Nat.reduceAdd, Bool.not_true, Bool.not_false, b1]) ?_
    refine sq ?_
    apply SW_run
    · simp +decide only [E, reduceIte, Nat.reduceAdd, Nat.reduceMul, Bool.not_true, Bool.not_false, L, b1]
      exact Is.mk _
    refine an (rt ?_)
    cases h
    simp [Ret, b1]
  replace h := ite_f b1 h
  refine SW_cf (by simp +decide only [F, reduceIte, Nat.reduceAdd, Bool.not_true, Bool.not_false, b1]) ?_
  refine sk (an (sq ?_))
  apply SW_run
  · simp +decide only [E, reduceIte, Nat.reduceAdd, Nat.reduceMul, Bool.not_true, Bool.not_false, L, b1]
    exact Is.mk _
  refine an (sq (bk ?_))
  refine SW_loop (fun m s => ∃ v0 : Int, ∃ v3 : ByteArray, s.t 0 = .v false [.dat (.int .i64 v0)] ∧ s.t 3 = .v false [.dat (.str v3)] ∧ m_laws_markText_L1 m v0 v3 = some r) fuel ?_ ?_
  · refine ⟨p0, (⟨#[]⟩ : ByteArray), ?_, ?_, h⟩
    all_goals simp +decide only [F, reduceIte, Nat.reduceAdd, Bool.not_true, Bool.not_false, b1]
  rintro mL1 s2 ⟨v0, v3, f3, f4, h⟩
  rcases mL1 with _ | mL1
  · exact absurd h (by simp [m_laws_markText_L1])
  simp only [m_laws_markText_L1] at h
  refine sq (sq ?_)
  apply SW_run
  · simp +decide only [E, reduceIte, Nat.reduceAdd, Nat.reduceMul, Bool.not_true, Bool.not_false, L, b1, f3, f4]
    exact Is.mk _
  refine an ?_
  rcases bcas (decide (v0 > 0)) with b5 | b5
  · replace h := ite_f b5 h
    refine SW_cf (by simp +decide only [F, reduceIte, Nat.reduceAdd, Bool.not_true, Bool.not_false, b1, f3, f4, b5]) ?_
    refine xt (aft_cx (aft_ix (aft_x (an (sq ?_)))))
    obtain ⟨x13, h14, h⟩ := bind_some h
    have h14_ := cat_some h14
    apply SW_run
    · simp +decide only [E, reduceIte, Nat.reduceAdd, Nat.reduceMul, Bool.not_true, Bool.not_false, L, b1, f3, f4, b5]
      refine ⟨h14_, ?_⟩
      try simp +decide only [E, reduceIte, Nat.reduceAdd, Nat.reduceMul, Bool.not_true, Bool.not_false, L, b1, f3, f4, b5]
      exact Is.mk _
    refine an (rt ?_)
    cases h
    simp [Ret, b1, f3, f4, b5]
  replace h := ite_t b5 h
  refine SW_ct (by simp +decide only [F, reduceIte, Nat.reduceAdd, Bool.not_true, Bool.not_false, b1, f3, f4, b5]) ?_
  refine sk (an (bk (sq ?_)))
  obtain ⟨x6, h7, h⟩ := bind_some h
  obtain ⟨x8, h9, h⟩ := bind_some h
  have h9_ := cat_some h9
  apply SW_run
  · simp +decide only [E, reduceIte, Nat.reduceAdd, Nat.reduceMul, Bool.not_true, Bool.not_false, strOf_one, strOf_en, Int.reduceEq, L, ti3, ti5, ti9, ti57, enB, b1, f3, f4, b5]
    refine ⟨toStr_must h7, ?_⟩
    try simp +decide only [E, reduceIte, Nat.reduceAdd, Nat.reduceMul, Bool.not_true, Bool.not_false, strOf_one, strOf_en, Int.reduceEq, L, ti3, ti5, ti9, ti57, enB, b1, f3, f4, b5]
    refine ⟨h9_, ?_⟩
    try simp +decide only [E, reduceIte, Nat.reduceAdd, Nat.reduceMul, Bool.not_true, Bool.not_false, strOf_one, strOf_en, Int.reduceEq, L, ti3, ti5, ti9, ti57, enB, b1, f3, f4, b5]
    exact Is.mk _
  refine an ?_
  refine SW_cut (J := fun s => s.t 0 = .v false [.dat (.int .i64 v0)] ∧ s.t 3 = .v false [.dat (.str ((bytesStr ([(IntKind.u8.wrap (IntKind.i64.wrap (48 + (Int.tmod v0 10))))])) ++ v3))] ∧ True) ?_ ?_
  · refine ⟨?_, ?_, trivial⟩ <;> (try simp +decide only [F, reduceIte, Nat.reduceAdd, Bool.not_true, Bool.not_false, b1, f3, f4, b5])
  rintro s10 ⟨f11, f12, _⟩
  apply SW_run
  · simp +decide only [E, reduceIte, Nat.reduceAdd, Nat.reduceMul, Bool.not_true, Bool.not_false, Int.reduceEq, L, b1, b5, f11, f12]
    exact Is.mk _
  refine ab ?_
  refine aft_i ⟨mL1, by omega, (IntKind.i64.wrap (Int.tdiv v0 10)), ((bytesStr ([(IntKind.u8.wrap (IntKind.i64.wrap (48 + (Int.tmod v0 10))))])) ++ v3), ?_, ?_, h⟩
  all_goals simp +decide only [F, reduceIte, Nat.reduceAdd, Bool.not_true, Bool.not_false, b1, b5, f11, f12]

set_option maxHeartbeats 4000000 in
theorem c_laws_markLoadedS (p0 : List M.Loaded) (p1 : Int) (r : (List M.Loaded × Int)) (h : m_laws_markLoadedS p0 p1 = some r) : MCalls Try.prog 85 false ([.sl (List.map M.Loaded.en p0)]) ([.sl (List.map M.Loaded.en r.1)]) p1 r.2 := by
  unfold m_laws_markLoadedS at h
  refine mcalls_of (N := 28) (r := 4) Try.func85 rfl rfl rfl (by decide +kernel) (by decide) fun cx => ?_
  refine msq ?_
  apply MW_run
  · simp +decide only [ME, E, reduceIte, Nat.reduceAdd, Nat.reduceMul, Bool.not_true, Bool.not_false, L]
    exact MIs.mk _
  refine man (msq (msq ?_))
  apply MW_run
  · simp +decide only [ME, E, reduceIte, Nat.reduceAdd, Nat.reduceMul, Bool.not_true, Bool.not_false, L]
    exact MIs.mk _
  refine man (mbk ?_)
  refine MW_loop (fun m s => ∃ v1 : Int, ∃ v5 : Int, ∃ r99 : List M.Loaded, s.t 0 = .unk ∧ s.m 0 = some (.top 0) ∧ s.t 1 = .v false [.dat (.int .i64 v1)] ∧ s.t 5 = .v false [.dat (.int .i64 v5)] ∧ s.ds = [.sl (List.map M.Loaded.en r99)] ∧ m_laws_markLoadedS_L1 m v1 v5 r99 = some r) fuel ?_ ?_
  · refine ⟨p1, 0, p0, ?_, ?_, ?_, ?_, ?_, h⟩
    all_goals simp +decide only [MF, F, reduceIte, Nat.reduceAdd, Bool.not_true, Bool.not_false, M.Loaded.en]
  rintro mL1 s1 ⟨v1, v5, r99, f2, f3, f4, f5, f6, h⟩
  rcases mL1 with _ | mL1
  · exact absurd h (by simp [m_laws_markLoadedS_L1])
  simp only [m_laws_markLoadedS_L1] at h
  refine msq (msq ?_)
  apply MW_run
  · simp +decide only [ME, E, reduceIte, Nat.reduceAdd, Nat.reduceMul, Bool.not_true, Bool.not_false, L, ti49, f2, f3, f4, f5, f6]
    exact MIs.mk _
  refine man ?_
  rcases bcas (decide (v5 < (List.length r99 : Int))) with b7 | b7
  · replace h := ite_f b7 h
    refine MW_cf (by simp +decide only [MF, F, reduceIte, Nat.reduceAdd, Bool.not_true, Bool.not_false, f2, f3, f4, f5, f6, b7]) ?_
    refine mxt (maft_cx (maft_ix (maft_x (man (msq ?_)))))
    apply MW_run
    · simp +decide only [ME, E, reduceIte, Nat.reduceAdd, Nat.reduceMul, Bool.not_true, Bool.not_false, L, f2, f3, f4, f5, f6, b7]
      exact MIs.mk _
    refine man (mrt ?_)
    cases h
    refine ⟨?_, ?_⟩ <;> (try simp +decide only [MF, F, ME, reduceIte, Nat.reduceAdd, M.Loaded.en, f2, f3, f4, f5, f6, b7])
  replace h := ite_t b7 h
  refine MW_ct (by simp +decide only [MF, F, reduceIte, Nat.reduceAdd, Bool.not_true, Bool.not_false, f2, f3, f4, f5, f6, b7]) ?_
  refine msk (man (msq (mbk (msq ?_))))
  obtain ⟨x8, h9, h⟩ := bind_some h
  obtain ⟨x10, h11, h⟩ := bind_some h
  obtain ⟨q12, q13, q14⟩ := idx_some h11
  apply MW_run
  · simp +decide only [ME, E, reduceIte, Nat.reduceAdd, Nat.reduceMul, Bool.not_true, Bool.not_false, L, ti9, ti49, ti137, M.Loaded.en, f2, f3, f4, f5, f6, b7, q12, q13, q14]
    refine ⟨_, c_laws_markText v1 x8 h9, ?_⟩
    try simp +decide only [ME, E, reduceIte, Nat.reduceAdd, Nat.reduceMul, Bool.not_true, Bool.not_false, L, ti9, ti49, ti137, M.Loaded.en, f2, f3, f4, f5, f6, b7, q12, q13, q14]
    exact MIs.mk _
  obtain ⟨y15, e16, h⟩ := bind_some h
  replace e16 := Option.some.inj e16
  refine man (msq ?_)
  refine MW_cut (J := fun s => s.t 0 = .unk ∧ s.m 0 = some (.top 0) ∧ s.t 1 = .v false [.dat (.int .i64 v1)] ∧ s.t 5 = .v false [.dat (.int .i64 v5)] ∧ s.ds = [.sl (List.map M.Loaded.en y15)] ∧ True) ?_ ?_
  · subst e16
    refine ⟨?_, ?_, ?_, ?_, ?_, trivial⟩ <;> (try simp +decide only [MF, F, reduceIte, Nat.reduceAdd, Bool.not_true, Bool.not_false, M.Loaded.en, f2, f3, f4, f5, f6, b7, q12, q13, q14])
  rintro s17 ⟨f18, f19, f20, f21, f22, _⟩
  apply MW_run
  · simp +decide only [ME, E, reduceIte, Nat.reduceAdd, Nat.reduceMul, Bool.not_true, Bool.not_false, L, b7, q12, q13, q14, f18, f19, f20, f21, f22]
    exact MIs.mk _
  refine man (msq ?_)
  obtain ⟨x23, h24, h⟩ := bind_some h
  obtain ⟨q25, q26, q27⟩ := idx_some h24
  apply MW_run
  · simp +decide only [ME, E, reduceIte, Nat.reduceAdd, Nat.reduceMul, Bool.not_true, Bool.not_false, L, ti3, ti49, ti137, M.Loaded.en, b7, q12, q13, q14, f18, f19, f20, f21, f22, q25, q26, q27]
    exact MIs.mk _
  obtain ⟨y28, e29, h⟩ := bind_some h
  replace e29 := Option.some.inj e29
  refine man ?_
  refine MW_cut (J := fun s => s.t 0 = .unk ∧ s.m 0 = some (.top 0) ∧ s.t 1 = .v false [.dat (.int .i64 (IntKind.i64.wrap (v1 + 1)))] ∧ s.t 5 = .v false [.dat (.int .i64 v5)] ∧ s.ds = [.sl (List.map M.Loaded.en y28)] ∧ True) ?_ ?_
  · subst e29
    refine ⟨?_, ?_, ?_, ?_, ?_, trivial⟩ <;> (try simp +decide only [MF, F, reduceIte, Nat.reduceAdd, Bool.not_true, Bool.not_false, M.Loaded.en, b7, q12, q13, q14, f18, f19, f20, f21, f22, q25, q26, q27])
  rintro s30 ⟨f31, f32, f33, f34, f35, _⟩
  apply MW_run
  · simp +decide only [ME, E, reduceIte, Nat.reduceAdd, Nat.reduceMul, Bool.not_true, Bool.not_false, L, b7, q12, q13, q14, q25, q26, q27, f31, f32, f33, f34, f35]
    exact MIs.mk _
  refine mab (man ?_)
  apply MW_run
  · simp +decide only [ME, E, reduceIte, Nat.reduceAdd, Nat.reduceMul, Bool.not_true, Bool.not_false, L, b7, q12, q13, q14, q25, q26, q27, f31, f32, f33, f34, f35]
    exact MIs.mk _
  refine maft_i ⟨mL1, by omega, (IntKind.i64.wrap ((IntKind.i64.wrap (v1 + 1)) + 1)), (IntKind.i64.wrap (v5 + 1)), y28, ?_, ?_, ?_, ?_, ?_, h⟩
  all_goals simp +decide only [MF, F, reduceIte, Nat.reduceAdd, Bool.not_true, Bool.not_false, M.Loaded.en, b7, q12, q13, q14, q25, q26, q27, f31, f32, f33, f34, f35]

set_option maxHeartbeats 4000000 in
theorem c_laws_markInstrS (p0 : List M.Instr) (p1 : Int) (r : (List M.Instr × Int)) (h : m_laws_markInstrS p0 p1 = some r) : MCalls Try.prog 86 false ([.sl (List.map M.Instr.en p0)]) ([.sl (List.map M.Instr.en r.1)]) p1 r.2 := by
  unfold m_laws_markInstrS at h
  refine mcalls_of (N := 42) (r := 4) Try.func86 rfl rfl rfl (by decide +kernel) (by decide) fun cx => ?_
  refine msq ?_
  apply MW_run
  · simp +decide only [ME, E, reduceIte, Nat.reduceAdd, Nat.reduceMul, Bool.not_true, Bool.not_false, L]
    exact MIs.mk _
  refine man (msq (msq ?_))
  apply MW_run
  · simp +decide only [ME, E, reduceIte, Nat.reduceAdd, Nat.reduceMul, Bool.not_true, Bool.not_false, L]
    exact MIs.mk _
  refine man (mbk ?_)
  refine MW_loop (fun m s => ∃ v1 : Int, ∃ v5 : Int, ∃ r99 : List M.Instr, s.t 0 = .unk ∧ s.m 0 = some (.top 0) ∧ s.t 1 = .v false [.dat (.int .i64 v1)] ∧ s.t 5 = .v false [.dat (.int .i64 v5)] ∧ s.ds = [.sl (List.map M.Instr.en r99)] ∧ m_laws_markInstrS_L1 m v1 v5 r99 = some r) fuel ?_ ?_
  · refine ⟨p1, 0, p0, ?_, ?_, ?_, ?_, ?_, h⟩
    all_goals simp +decide only [MF, F, reduceIte, Nat.reduceAdd, Bool.not_true, Bool.not_false, M.Instr.en]
  rintro mL1 s1 ⟨v1, v5, r99, f2, f3, f4, f5, f6, h⟩
  rcases mL1 with _ | mL1
  · exact absurd h (by simp [m_laws_markInstrS_L1])
  simp only [m_laws_markInstrS_L1] at h
  refine msq (msq ?_)
  apply MW_run
  · simp +decide only [ME, E, reduceIte, Nat.reduceAdd, Nat.reduceMul, Bool.not_true, Bool.not_false, L, ti50, f2, f3, f4, f5, f6]
    exact MIs.mk _
  refine man ?_
  rcases bcas (decide (v5 < (List.length r99 : Int))) with b7 | b7
  · replace h := ite_f b7 h
    refine MW_cf (by simp +decide only [MF, F, reduceIte, Nat.reduceAdd, Bool.not_true, Bool.not_false, f2, f3, f4, f5, f6, b7]) ?_
    refine mxt (maft_cx (maft_ix (maft_x (man (msq ?_)))))
    apply MW_run
    · simp +decide only [ME, E, reduceIte, Nat.reduceAdd, Nat.reduceMul, Bool.not_true, Bool.not_false, L, f2, f3, f4, f5, f6, b7]
      exact MIs.mk _
    refine man (mrt ?_)
    cases h
    refine ⟨?_, ?_⟩ <;> (try simp +decide only [MF, F, ME, reduceIte, Nat.reduceAdd, M.Instr.en, f2, f3, f4, f5, f6, b7])
  replace h := ite_t b7 h
  refine MW_ct (by simp +decide only [MF, F, reduceIte, Nat.reduceAdd, Bool.not_true, Bool.not_false, f2, f3, f4, f5, f6, b7]) ?_
  refine msk (man (msq (mbk (msq ?_))))
  obtain ⟨x8, h9, h⟩ := bind_some h
  obtain ⟨q10, q11, q12⟩ := idx_some h9
  apply MW_run
  · simp +decide only [ME, E, reduceIte, Nat.reduceAdd, Nat.reduceMul, Bool.not_true, Bool.not_false, L, ti3, ti50, ti169, M.Instr.en, f2, f3, f4, f5, f6, b7, q10, q11, q12]
    exact MIs.mk _
  obtain ⟨y13, e14, h⟩ := bind_some h
  replace e14 := Option.some.inj e14
  refine man (msq ?_)
  refine MW_cut (J := fun s => s.t 0 = .unk ∧ s.m 0 = some (.top 0) ∧ s.t 1 = .v false [.dat (.int .i64 v1)] ∧ s.t 5 = .v false [.dat (.int .i64 v5)] ∧ s.ds = [.sl (List.map M.Instr.en y13)] ∧ True) ?_ ?_
  · subst e14
    refine ⟨?_, ?_, ?_, ?_, ?_, trivial⟩ <;> (try simp +decide only [MF, F, reduceIte, Nat.reduceAdd, Bool.not_true, Bool.not_false, M.Instr.en, f2, f3, f4, f5, f6, b7, q10, q11, q12])
  rintro s15 ⟨f16, f17, f18, f19, f20, _⟩
  apply MW_run
  · simp +decide only [ME, E, reduceIte, Nat.reduceAdd, Nat.reduceMul, Bool.not_true, Bool.not_false, L, b7, q10, q11, q12, f16, f17, f18, f19, f20]
    exact MIs.mk _
  refine man (msq ?_)
  obtain ⟨x21, h22, h⟩ := bind_some h
  obtain ⟨q23, q24, q25⟩ := idx_some h22
  apply MW_run
  · simp +decide only [ME, E, reduceIte, Nat.reduceAdd, Nat.reduceMul, Bool.not_true, Bool.not_false, L, ti3, ti50, ti169, M.Instr.en, b7, q10, q11, q12, f16, f17, f18, f19, f20, q23, q24, q25]
    exact MIs.mk _
  obtain ⟨y26, e27, h⟩ := bind_some h
  replace e27 := Option.some.inj e27
  refine man (msq ?_)
  refine MW_cut (J := fun s => s.t 0 = .unk ∧ s.m 0 = some (.top 0) ∧ s.t 1 = .v false [.dat (.int .i64 (IntKind.i64.wrap (v1 + 1)))] ∧ s.t 5 = .v false [.dat (.int .i64 v5)] ∧ s.ds = [.sl (List.map M.Instr.en y26)] ∧ True) ?_ ?_
  · subst e27
    refine ⟨?_, ?_, ?_, ?_, ?_, trivial⟩ <;> (try simp +decide only [MF, F, reduceIte, Nat.reduceAdd, Bool.not_true, Bool.not_false, M.Instr.en, b7, q10, q11, q12, f16, f17, f18, f19, f20, q23, q24, q25])
  rintro s28 ⟨f29, f30, f31, f32, f33, _⟩
  apply MW_run
  · simp +decide only [ME, E, reduceIte, Nat.reduceAdd, Nat.reduceMul, Bool.not_true, Bool.not_false, L, b7, q10, q11, q12, q23, q24, q25, f29, f30, f31, f32, f33]
    exact MIs.mk _
  refine man (msq ?_)
  obtain ⟨x34, h35, h⟩ := bind_some h
  obtain ⟨q36, q37, q38⟩ := idx_some h35
  apply MW_run
  · simp +decide only [ME, E, reduceIte, Nat.reduceAdd, Nat.reduceMul, Bool.not_true, Bool.not_false, L, ti3, ti50, ti169, M.Instr.en, b7, q10, q11, q12, q23, q24, q25, f29, f30, f31, f32, f33, q36, q37, q38]
    exact MIs.mk _
  obtain ⟨y39, e40, h⟩ := bind_some h
  replace e40 := Option.some.inj e40
  refine man (msq ?_)
  refine MW_cut (J := fun s => s.t 0 = .unk ∧ s.m 0 = some (.top 0) ∧ s.t 1 = .v false [.dat (.int .i64 (IntKind.i64.wrap ((IntKind.i64.wrap (v1 + 1)) + 1)))] ∧ s.t 5 = .v false [.dat (.int .i64 v5)] ∧ s.ds = [.sl (List.map M.Instr.en y39)] ∧ True) ?_ ?_
  · subst e40
    refine ⟨?_, ?_, ?_, ?_, ?_, trivial⟩ <;> (try simp +decide only [MF, F, reduceIte, Nat.reduceAdd, Bool.not_true, Bool.not_false, M.Instr.en, b7, q10, q11, q12, q23, q24, q25, f29, f30, f31, f32, f33, q36, q37, q38])
  rintro s41 ⟨f42, f43, f44, f45, f46, _⟩
  apply MW_run
  · simp +decide only [ME, E, reduceIte, Nat.reduceAdd, Nat.reduceMul, Bool.not_true, Bool.not_false, L, b7, q10, q11, q12, q23, q24, q25, q36, q37, q38, f42, f43, f44, f45, f46]
    exact MIs.mk _
  refine man (msq ?_)
  obtain ⟨x47, h48, h⟩ := bind_some h
  obtain ⟨x49, h50, h⟩ := bind_some h
  obtain ⟨q51, q52, q53⟩ := idx_some h50
  apply MW_run
  · simp +decide only [ME, E, reduceIte, Nat.reduceAdd, Nat.reduceMul, Bool.not_true, Bool.not_false, L, ti9, ti50, ti169, M.Instr.en, b7, q10, q11, q12, q23, q24, q25, q36, q37, q38, f42, f43, f44, f45, f46, q51, q52, q53]
    refine ⟨_, c_laws_markText (IntKind.i64.wrap ((IntKind.i64.wrap ((IntKind.i64.wrap (v1 + 1)) + 1)) + 1)) x47 h48, ?_⟩
    try simp +decide only [ME, E, reduceIte, Nat.reduceAdd, Nat.reduceMul, Bool.not_true, Bool.not_false, L, ti9, ti50, ti169, M.Instr.en, b7, q10, q11, q12, q23, q24, q25, q36, q37, q38, f42, f43, f44, f45, f46, q51, q52, q53]
    exact MIs.mk _
  obtain ⟨y54, e55, h⟩ := bind_some h
  replace e55 := Option.some.inj e55
  refine man ?_
  refine MW_cut (J := fun s => s.t 0 = .unk ∧ s.m 0 = some (.top 0) ∧ s.t 1 = .v false [.dat (.int .i64 (IntKind.i64.wrap ((IntKind.i64.wrap ((IntKind.i64.wrap (v1 + 1)) + 1)) + 1)))] ∧ s.t 5 = .v false [.dat (.int .i64 v5)] ∧ s.ds = [.sl (List.map M.Instr.en y54)] ∧ True) ?_ ?_
  · subst e55
    refine ⟨?_, ?_, ?_, ?_, ?_, trivial⟩ <;> (try simp +decide only [MF, F, reduceIte, Nat.reduceAdd, Bool.not_true, Bool.not_false, M.Instr.en, b7, q10, q11, q12, q23, q24, q25, q36, q37, q38, f42, f43, f44, f45, f46, q51, q52, q53])
  rintro s56 ⟨f57, f58, f59, f60, f61, _⟩
  apply MW_run
  · simp +decide only [ME, E, reduceIte, Nat.reduceAdd, Nat.reduceMul, Bool.not_true, Bool.not_false, L, b7, q10, q11, q12, q23, q24, q25, q36, q37, q38, q51, q52, q53, f57, f58, f59, f60, f61]
    exact MIs.mk _
  refine mab (man ?_)
  apply MW_run
  · simp +decide only [ME, E, reduceIte, Nat.reduceAdd, Nat.reduceMul, Bool.not_true, Bool.not_false, L, b7, q10, q11, q12, q23, q24, q25, q36, q37, q38, q51, q52, q53, f57, f58, f59, f60, f61]
    exact MIs.mk _
  refine maft_i ⟨mL1, by omega, (IntKind.i64.wrap ((IntKind.i64.wrap ((IntKind.i64.wrap ((IntKind.i64.wrap (v1 + 1)) + 1)) + 1)) + 1)), (IntKind.i64.wrap (v5 + 1)), y54, ?_, ?_, ?_, ?_, ?_, h⟩
  all_goals simp +decide only [MF, F, reduceIte, Nat.reduceAdd, Bool.not_true, Bool.not_false, M.Instr.en, b7, q10, q11, q12, q23, q24, q25, q36, q37, q38, q51, q52, q53, f57, f58, f59, f60, f61]

set_option maxHeartbeats 4000000 in
theorem c_laws_markIntS (p0 : List Int) (p1 : Int) (r : (List Int × Int)) (h : m_laws_markIntS p0 p1 = some r) : MCalls Try.prog 87 false ([.sl (List.map enI p0)]) ([.sl (List.map enI r.1)]) p1 r.2 := by
  unfold m_laws_markIntS at h
  refine mcalls_of (N := 19) (r := 4) Try.func87 rfl rfl rfl (by decide +kernel) (by decide) fun cx => ?_
  refine msq ?_
  apply MW_run
  · simp +decide only [ME, E, reduceIte, Nat.reduceAdd, Nat.reduceMul, Bool.not_true, Bool.not_false, L]
    exact MIs.mk _
  refine man (msq (msq ?_))
  apply MW_run
  · simp +decide only [ME, E, reduceIte, Nat.reduceAdd, Nat.reduceMul, Bool.not_true, Bool.not_false, L]
    exact MIs.mk _
  refine man (mbk ?_)
  refine MW_loop (fun m s => ∃ v1 : Int, ∃ v5 : Int, ∃ r99 : List Int, s.t 0 = .unk ∧ s.m 0 = some (.top 0) ∧ s.t 1 = .v false [.dat (.int .i64 v1)] ∧ s.t 5 = .v false [.dat (.int .i64 v5)] ∧ s.ds = [.sl (List.map enI r99)] ∧ m_laws_markIntS_L1 m v1 v5 r99 = some r) fuel ?_ ?_
  · refine ⟨p1, 0, p0, ?_, ?_, ?_, ?_, ?_, h⟩
    all_goals simp +decide only [MF, F, reduceIte, Nat.reduceAdd, Bool.not_true, Bool.not_false, enI]
  rintro mL1 s1 ⟨v1, v5, r99, f2, f3, f4, f5, f6, h⟩
  rcases mL1 with _ | mL1
  · exact absurd h (by simp [m_laws_markIntS_L1])
  simp only [m_laws_markIntS_L1] at h
  refine msq (msq ?_)
  apply MW_run
  · simp +decide only [ME, E, reduceIte, Nat.reduceAdd, Nat.reduceMul, Bool.not_true, Bool.not_false, L, ti42, f2, f3, f4, f5, f6]
    exact MIs.mk _
  refine man ?_
  rcases bcas (decide (v5 < (List.length r99 : Int))) with b7 | b7
  · replace h := ite_f b7 h
    refine MW_cf (by simp +decide only [MF, F, reduceIte, Nat.reduceAdd, Bool.not_true, Bool.not_false, f2, f3, f4, f5, f6, b7]) ?_
    refine mxt (maft_cx (maft_ix (maft_x (man (msq ?_)))))
    apply MW_run
    · simp +decide only [ME, E, reduceIte, Nat.reduceAdd, Nat.reduceMul, Bool.not_true, Bool.not_false, L, f2, f3, f4, f5, f6, b7]
      exact MIs.mk _
    refine man (mrt ?_)
    cases h
    refine ⟨?_, ?_⟩ <;> (try simp +decide only [MF, F, ME, reduceIte, Nat.reduceAdd, enI, f2, f3, f4, f5, f6, b7])
  replace h := ite_t b7 h
  refine MW_ct (by simp +decide only [MF, F, reduceIte, Nat.reduceAdd, Bool.not_true, Bool.not_false, f2, f3, f4, f5, f6, b7]) ?_
  refine msk (man (msq (mbk (msq ?_))))
  obtain ⟨x8, h9, h⟩ := bind_some h
  obtain ⟨q10, q11, q12⟩ := idx_some h9
  apply MW_run
  · simp +decide only [ME, E, reduceIte, Nat.reduceAdd, Nat.reduceMul, Bool.not_true, Bool.not_false, L, ti3, ti42, enI, f2, f3, f4, f5, f6, b7, q10, q11, q12]
    exact MIs.mk _
  obtain ⟨y13, e14, h⟩ := bind_some h
  replace e14 := Option.some.inj e14
  refine man ?_
  refine MW_cut (J := fun s => s.t 0 = .unk ∧ s.m 0 = some (.top 0) ∧ s.t 1 = .v false [.dat (.int .i64 v1)] ∧ s.t 5 = .v false [.dat (.int .i64 v5)] ∧ s.ds = [.sl (List.map enI y13)] ∧ True) ?_ ?_
  · subst e14
    refine ⟨?_, ?_, ?_, ?_, ?_, trivial⟩ <;> (try simp +decide only [MF, F, reduceIte, Nat.reduceAdd, Bool.not_true, Bool.not_false, enI, f2, f3, f4, f5, f6, b7, q10, q11, q12])
  rintro s15 ⟨f16, f17, f18, f19, f20, _⟩
  apply MW_run
  · simp +decide only [ME, E, reduceIte, Nat.reduceAdd, Nat.reduceMul, Bool.not_true, Bool.not_false, L, b7, q10, q11, q12, f16, f17, f18, f19, f20]
    exact MIs.mk _
  refine mab (man ?_)
  apply MW_run
  · simp +decide only [ME, E, reduceIte, Nat.reduceAdd, Nat.reduceMul, Bool.not_true, Bool.not_false, L, b7, q10, q11, q12, f16, f17, f18, f19, f20]
    exact MIs.mk _
  refine maft_i ⟨mL1, by omega, (IntKind.i64.wrap (v1 + 1)), (IntKind.i64.wrap (v5 + 1)), y13, ?_, ?_, ?_, ?_, ?_, h⟩
  all_goals simp +decide only [MF, F, reduceIte, Nat.reduceAdd, Bool.not_true, Bool.not_false, enI, b7, q10, q11, q12, f16, f17, f18, f19, f20]

set_option maxHeartbeats 4000000 in
theorem c_laws_markPageS (p0 : List M.Page) (p1 : Int) (r : (List M.Page × Int)) (h : m_laws_markPageS p0 p1 = some r) : MCalls Try.prog 41 false ([.sl (List.map M.Page.en p0)]) ([.sl (List.map M.Page.en r.1)]) p1 r.2 := by
  unfold m_laws_markPageS at h
  refine mcalls_of (N := 102) (r := 4) Try.func41 rfl rfl rfl (by decide +kernel) (by decide) fun cx => ?_
  refine msq ?_
  apply MW_run
  · simp +decide only [ME, E, reduceIte, Nat.reduceAdd, Nat.reduceMul, Bool.not_true, Bool.not_false, L]
    exact MIs.mk _
  refine man (msq (msq ?_))
  apply MW_run
  · simp +decide only [ME, E, reduceIte, Nat.reduceAdd, Nat.reduceMul, Bool.not_true, Bool.not_false, L]
    exact MIs.mk _
  refine man (mbk ?_)
  refine MW_loop (fun m s => ∃ v1 : Int, ∃ v5 : Int, ∃ r99 : List M.Page, s.t 0 = .unk ∧ s.m 0 = some (.top 0) ∧ s.t 1 = .v false [.dat (.int .i64 v1)] ∧ s.t 5 = .v false [.dat (.int .i64 v5)] ∧ s.ds = [.sl (List.map M.Page.en r99)] ∧ m_laws_markPageS_L1 m v1 v5 r99 = some r) fuel ?_ ?_
  · refine ⟨p1, 0, p0, ?_, ?_, ?_, ?_, ?_, h⟩
    all_goals simp +decide only [MF, F, reduceIte, Nat.reduceAdd, Bool.not_true, Bool.not_false, M.Page.en]
  rintro mL1 s1 ⟨v1, v5, r99, f2, f3, f4, f5, f6, h⟩
  rcases mL1 with _ | mL1
  · exact absurd h (by simp [m_laws_markPageS_L1])
  simp only [m_laws_markPageS_L1] at h
  refine msq (msq ?_)
  apply MW_run
  · simp +decide only [ME, E, reduceIte, Nat.reduceAdd, Nat.reduceMul, Bool.not_true, Bool.not_false, L, ti59, f2, f3, f4, f5, f6]
    exact MIs.mk _
  refine man ?_
  rcases bcas (decide (v5 < (List.length r99 : Int))) with b7 | b7
  · replace h := ite_f b7 h
    refine MW_cf (by simp +decide only [MF, F, reduceIte, Nat.reduceAdd, Bool.not_true, Bool.not_false, f2, f3, f4, f5, f6, b7]) ?_
    refine mxt (maft_cx (maft_ix (maft_x (man (msq ?_)))))
    apply MW_run
    · simp +decide only [ME, E, reduceIte, Nat.reduceAdd, Nat.reduceMul, Bool.not_true, Bool.not_false, L, f2, f3, f4, f5, f6, b7]
      exact MIs.mk _
    refine man (mrt ?_)
    cases h
    refine ⟨?_, ?_⟩ <;> (try simp +decide only [MF, F, ME, reduceIte, Nat.reduceAdd, M.Page.en, f2, f3, f4, f5, f6, b7])
  replace h := ite_t b7 h
  refine MW_ct (by simp +decide only [MF, F, reduceIte, Nat.reduceAdd, Bool.not_true, Bool.not_false, f2, f3, f4, f5, f6, b7]) ?_
  refine msk (man (msq (mbk (msq ?_))))
  obtain ⟨x8, h9, h⟩ := bind_some h
  obtain ⟨q10, q11, q12⟩ := idx_some h9
  apply MW_run
  · simp +decide only [ME, E, reduceIte, Nat.reduceAdd, Nat.reduceMul, Bool.not_true, Bool.not_false, L, ti3, ti54, ti59, M.Page.en, f2, f3, f4, f5, f6, b7, q10, q11, q12]
    exact MIs.mk _
  obtain ⟨y13, e14, h⟩ := bind_some h
  replace e14 := Option.some.inj e14
  refine man (msq ?_)
  refine MW_cut (J := fun s => s.t 0 = .unk ∧ s.m 0 = some (.top 0) ∧ s.t 1 = .v false [.dat (.int .i64 v1)] ∧ s.t 5 = .v false [.dat (.int .i64 v5)] ∧ s.ds = [.sl (List.map M.Page.en y13)] ∧ True) ?_ ?_
  · subst e14
    refine ⟨?_, ?_, ?_, ?_, ?_, trivial⟩ <;> (try simp +decide only [MF, F, reduceIte, Nat.reduceAdd, Bool.not_true, Bool.not_false, M.Page.en, f2, f3, f4, f5, f6, b7, q10, q11, q12])
  rintro s15 ⟨f16, f17, f18, f19, f20, _⟩
  apply MW_run
  · simp +decide only [ME, E, reduceIte, Nat.reduceAdd, Nat.reduceMul, Bool.not_true, Bool.not_false, L, b7, q10, q11, q12, f16, f17, f18, f19, f20]
    exact MIs.mk _
  refine man (msq ?_)
  obtain ⟨x21, h22, h⟩ := bind_some h
  obtain ⟨x23, h24, h⟩ := bind_some h
  obtain ⟨q25, q26, q27⟩ := idx_some h24
  apply MW_run
  · simp +decide only [ME, E, reduceIte, Nat.reduceAdd, Nat.reduceMul, Bool.not_true, Bool.not_false, L, ti9, ti54, ti59, M.Page.en, b7, q10, q11, q12, f16, f17, f18, f19, f20, q25, q26, q27]
    refine ⟨_, c_laws_markText (IntKind.i64.wrap (v1 + 1)) x21 h22, ?_⟩
    try simp +decide only [ME, E, reduceIte, Nat.reduceAdd, Nat.reduceMul, Bool.not_true, Bool.not_false, L, ti9, ti54, ti59, M.Page.en, b7, q10, q11, q12, f16, f17, f18, f19, f20, q25, q26, q27]
    exact MIs.mk _
  obtain ⟨y28, e29, h⟩ := bind_some h
  replace e29 := Option.some.inj e29
  refine man (msq ?_)
  refine MW_cut (J := fun s => s.t 0 = .unk ∧ s.m 0 = some (.top 0) ∧ s.t 1 = .v false [.dat (.int .i64 (IntKind.i64.wrap (v1 + 1)))] ∧ s.t 5 = .v false [.dat (.int .i64 v5)] ∧ s.ds = [.sl (List.map M.Page.en y28)] ∧ True) ?_ ?_
  · subst e29
    refine ⟨?_, ?_, ?_, ?_, ?_, trivial⟩ <;> (try simp +decide only [MF, F, reduceIte, Nat.reduceAdd, Bool.not_true, Bool.not_false, M.Page.en, b7, q10, q11, q12, f16, f17, f18, f19, f20, q25, q26, q27])
  rintro s30 ⟨f31, f32, f33, f34, f35, _⟩
  apply MW_run
  · simp +decide only [ME, E, reduceIte, Nat.reduceAdd, Nat.reduceMul, Bool.not_true, Bool.not_false, L, b7, q10, q11, q12, q25, q26, q27, f31, f32, f33, f34, f35]
    exact MIs.mk _
  refine man (msq ?_)
  obtain ⟨x36, h37, h⟩ := bind_some h
  obtain ⟨x38, h39, h⟩ := bind_some h
  obtain ⟨q40, q41, q42⟩ := idx_some h39
  apply MW_run
  · simp +decide only [ME, E, reduceIte, Nat.reduceAdd, Nat.reduceMul, Bool.not_true, Bool.not_false, L, ti9, ti54, ti59, M.Page.en, b7, q10, q11, q12, q25, q26, q27, f31, f32, f33, f34, f35, q40, q41, q42]
    refine ⟨_, c_laws_markText (IntKind.i64.wrap ((IntKind.i64.wrap (v1 + 1)) + 1)) x36 h37, ?_⟩
    try simp +decide only [ME, E, reduceIte, Nat.reduceAdd, Nat.reduceMul, Bool.not_true, Bool.not_false, L, ti9, ti54, ti59, M.Page.en, b7, q10, q11, q12, q25, q26, q27, f31, f32, f33, f34, f35, q40, q41, q42]
    exact MIs.mk _
  obtain ⟨y43, e44, h⟩ := bind_some h
  replace e44 := Option.some.inj e44
  refine man (msq ?_)
  refine MW_cut (J := fun s => s.t 0 = .unk ∧ s.m 0 = some (.top 0) ∧ s.t 1 = .v false [.dat (.int .i64 (IntKind.i64.wrap ((IntKind.i64.wrap (v1 + 1)) + 1)))] ∧ s.t 5 = .v false [.dat (.int .i64 v5)] ∧ s.ds = [.sl (List.map M.Page.en y43)] ∧ True) ?_ ?_
  · subst e44
    refine ⟨?_, ?_, ?_, ?_, ?_, trivial⟩ <;> (try simp +decide only [MF, F, reduceIte, Nat.reduceAdd, Bool.not_true, Bool.not_false, M.Page.en, b7, q10, q11, q12, q25, q26, q27, f31, f32, f33, f34, f35, q40, q41, q42])
  rintro s45 ⟨f46, f47, f48, f49, f50, _⟩
  apply MW_run
  · simp +decide only [ME, E, reduceIte, Nat.reduceAdd, Nat.reduceMul, Bool.not_true, Bool.not_false, L, b7, q10, q11, q12, q25, q26, q27, q40, q41, q42, f46, f47, f48, f49, f50]
    exact MIs.mk _
  refine man (msq ?_)
  obtain ⟨x51, h52, h⟩ := bind_some h
  obtain ⟨q53, q54, q55⟩ := idx_some h52
  apply MW_run
  · simp +decide only [ME, E, reduceIte, Nat.reduceAdd, Nat.reduceMul, Bool.not_true, Bool.not_false, L, ti3, ti54, ti59, M.Page.en, b7, q10, q11, q12, q25, q26, q27, q40, q41, q42, f46, f47, f48, f49, f50, q53, q54, q55]
    exact MIs.mk _
  obtain ⟨y56, e57, h⟩ := bind_some h
  replace e57 := Option.some.inj e57
  refine man (msq ?_)
  refine MW_cut (J := fun s => s.t 0 = .unk ∧ s.m 0 = some (.top 0) ∧ s.t 1 = .v false [.dat (.int .i64 (IntKind.i64.wrap ((IntKind.i64.wrap ((IntKind.i64.wrap (v1 + 1)) + 1)) + 1)))] ∧ s.t 5 = .v false [.dat (.int .i64 v5)] ∧ s.ds = [.sl (List.map M.Page.en y56)] ∧ True) ?_ ?_
  · subst e57
    refine ⟨?_, ?_, ?_, ?_, ?_, trivial⟩ <;> (try simp +decide only [MF, F, reduceIte, Nat.reduceAdd, Bool.not_true, Bool.not_false, M.Page.en, b7, q10, q11, q12, q25, q26, q27, q40, q41, q42, f46, f47, f48, f49, f50, q53, q54, q55])
  rintro s58 ⟨f59, f60, f61, f62, f63, _⟩
  apply MW_run
  · simp +decide only [ME, E, reduceIte, Nat.reduceAdd, Nat.reduceMul, Bool.not_true, Bool.not_false, L, b7, q10, q11, q12, q25, q26, q27, q40, q41, q42, q53, q54, q55, f59, f60, f61, f62, f63]
    exact MIs.mk _
  refine man (msq ?_)
  obtain ⟨x64, h65, h⟩ := bind_some h
  obtain ⟨q66, q67, q68⟩ := idx_some h65
  obtain ⟨x69, h70, h⟩ := bind_some h
  apply MW_run
  · simp +decide only [ME, E, reduceIte, Nat.reduceAdd, Nat.reduceMul, Bool.not_true, Bool.not_false, L, ti49, ti54, ti59, M.Page.en, b7, q10, q11, q12, q25, q26, q27, q40, q41, q42, q53, q54, q55, f59, f60, f61, f62, f63, q66, q67, q68]
    refine ⟨_, _, c_laws_markLoadedS x64.Loaded (IntKind.i64.wrap ((IntKind.i64.wrap ((IntKind.i64.wrap ((IntKind.i64.wrap (v1 + 1)) + 1)) + 1)) + 1)) x69 h70, ?_⟩
    try simp +decide only [ME, E, reduceIte, Nat.reduceAdd, Nat.reduceMul, Bool.not_true, Bool.not_false, L, ti49, ti54, ti59, M.Page.en, b7, q10, q11, q12, q25, q26, q27, q40, q41, q42, q53, q54, q55, f59, f60, f61, f62, f63, q66, q67, q68]
    exact MIs.mk _
  obtain ⟨y71, e72, h⟩ := bind_some h
  replace e72 := Option.some.inj e72
  refine man (msq ?_)
  refine MW_cut (J := fun s => s.t 0 = .unk ∧ s.m 0 = some (.top 0) ∧ s.t 1 = .v false [.dat (.int .i64 x69.2)] ∧ s.t 5 = .v false [.dat (.int .i64 v5)] ∧ s.ds = [.sl (List.map M.Page.en y71)] ∧ True) ?_ ?_
  · subst e72
    refine ⟨?_, ?_, ?_, ?_, ?_, trivial⟩ <;> (try simp +decide only [MF, F, reduceIte, Nat.reduceAdd, Bool.not_true, Bool.not_false, M.Page.en, b7, q10, q11, q12, q25, q26, q27, q40, q41, q42, q53, q54, q55, f59, f60, f61, f62, f63, q66, q67, q68])
  rintro s73 ⟨f74, f75, f76, f77, f78, _⟩
  obtain ⟨x79, h80, h⟩ := bind_some h
  obtain ⟨q81, q82, q83⟩ := idx_some h80
  obtain ⟨x84, h85, h⟩ := bind_some h
  apply MW_run
  · simp +decide only [ME, E, reduceIte, Nat.reduceAdd, Nat.reduceMul, Bool.not_true, Bool.not_false, L, ti50, ti52, ti54, ti59, M.Page.en, b7, q10, q11, q12, q25, q26, q27, q40, q41, q42, q53, q54, q55, q66, q67, q68, f74, f75, f76, f77, f78, q81, q82, q83]
    refine ⟨_, _, c_laws_markInstrS x79.Machine.Script x69.2 x84 h85, ?_⟩
    try simp +decide only [ME, E, reduceIte, Nat.reduceAdd, Nat.reduceMul, Bool.not_true, Bool.not_false, L, ti50, ti52, ti54, ti59, M.Page.en, b7, q10, q11, q12, q25, q26, q27, q40, q41, q42, q53, q54, q55, q66, q67, q68, f74, f75, f76, f77, f78, q81, q82, q83]
    exact MIs.mk _
  obtain ⟨y86, e87, h⟩ := bind_some h
  replace e87 := Option.some.inj e87
  refine man (msq ?_)
  refine MW_cut (J := fun s => s.t 0 = .unk ∧ s.m 0 = some (.top 0) ∧ s.t 1 = .v false [.dat (.int .i64 x84.2)] ∧ s.t 5 = .v false [.dat (.int .i64 v5)] ∧ s.ds = [.sl (List.map M.Page.en y86)] ∧ True) ?_ ?_
  · subst e87
    refine ⟨?_, ?_, ?_, ?_, ?_, trivial⟩ <;> (try simp +decide only [MF, F, reduceIte, Nat.reduceAdd, Bool.not_true, Bool.not_false, M.Page.en, b7, q10, q11, q12, q25, q26, q27, q40, q41, q42, q53, q54, q55, q66, q67, q68, f74, f75, f76, f77, f78, q81, q82, q83])
  rintro s88 ⟨f89, f90, f91, f92, f93, _⟩
  obtain ⟨x94, h95, h⟩ := bind_some h
  obtain ⟨q96, q97, q98⟩ := idx_some h95
  apply MW_run
  · simp +decide only [ME, E, reduceIte, Nat.reduceAdd, Nat.reduceMul, Bool.not_true, Bool.not_false, L, ti3, ti52, ti54, ti59, M.Page.en, b7, q10, q11, q12, q25, q26, q27, q40, q41, q42, q53, q54, q55, q66, q67, q68, q81, q82, q83, f89, f90, f91, f92, f93, q96, q97, q98]
    exact MIs.mk _
  obtain ⟨y99, e100, h⟩ := bind_some h
  replace e100 := Option.some.inj e100
  refine man (msq ?_)
  refine MW_cut (J := fun s => s.t 0 = .unk ∧ s.m 0 = some (.top 0) ∧ s.t 1 = .v false [.dat (.int .i64 x84.2)] ∧ s.t 5 = .v false [.dat (.int .i64 v5)] ∧ s.ds = [.sl (List.map M.Page.en y99)] ∧ True) ?_ ?_
  · subst e100
    refine ⟨?_, ?_, ?_, ?_, ?_, trivial⟩ <;> (try simp +decide only [MF, F, reduceIte, Nat.reduceAdd, Bool.not_true, Bool.not_false, M.Page.en, b7, q10, q11, q12, q25, q26, q27, q40, q41, q42, q53, q54, q55, q66, q67, q68, q81, q82, q83, f89, f90, f91, f92, f93, q96, q97, q98])
  rintro s101 ⟨f102, f103, f104, f105, f106, _⟩
  apply MW_run
  · simp +decide only [ME, E, reduceIte, Nat.reduceAdd, Nat.reduceMul, Bool.not_true, Bool.not_false, L, b7, q10, q11, q12, q25, q26, q27, q40, q41, q42, q53, q54, q55, q66, q67, q68, q81, q82, q83, q96, q97, q98, f102, f103, f104, f105, f106]
    exact MIs.mk _
  refine man (msq ?_)
  obtain ⟨x107, h108, h⟩ := bind_some h
  obtain ⟨q109, q110, q111⟩ := idx_some h108
  obtain ⟨x112, h113, h⟩ := bind_some h
  apply MW_run
  · simp +decide only [ME, E, reduceIte, Nat.reduceAdd, Nat.reduceMul, Bool.not_true, Bool.not_false, L, ti42, ti52, ti54, ti59, M.Page.en, b7, q10, q11, q12, q25, q26, q27, q40, q41, q42, q53, q54, q55, q66, q67, q68, q81, q82, q83, q96, q97, q98, f102, f103, f104, f105, f106, q109, q110, q111]
    refine ⟨_, _, c_laws_markIntS x107.Machine.Regs (IntKind.i64.wrap (x84.2 + 1)) x112 h113, ?_⟩
    try simp +decide only [ME, E, reduceIte, Nat.reduceAdd, Nat.reduceMul, Bool.not_true, Bool.not_false, L, ti42, ti52, ti54, ti59, M.Page.en, b7, q10, q11, q12, q25, q26, q27, q40, q41, q42, q53, q54, q55, q66, q67, q68, q81, q82, q83, q96, q97, q98, f102, f103, f104, f105, f106, q109, q110, q111]
    exact MIs.mk _
  obtain ⟨y114, e115, h⟩ := bind_some h
  replace e115 := Option.some.inj e115
  refine man (msq ?_)
  refine MW_cut (J := fun s => s.t 0 = .unk ∧ s.m 0 = some (.top 0) ∧ s.t 1 = .v false [.dat (.int .i64 x112.2)] ∧ s.t 5 = .v false [.dat (.int .i64 v5)] ∧ s.ds = [.sl (List.map M.Page.en y114)] ∧ True) ?_ ?_
  · subst e115
    refine ⟨?_, ?_, ?_, ?_, ?_, trivial⟩ <;> (try simp +decide only [MF, F, reduceIte, Nat.reduceAdd, Bool.not_true, Bool.not_false, M.Page.en, b7, q10, q11, q12, q25, q26, q27, q40, q41, q42, q53, q54, q55, q66, q67, q68, q81, q82, q83, q96, q97, q98, f102, f103, f104, f105, f106, q109, q110, q111])
  rintro s116 ⟨f117, f118, f119, f120, f121, _⟩
  obtain ⟨x122, h123, h⟩ := bind_some h
  obtain ⟨q124, q125, q126⟩ := idx_some h123
  apply MW_run
  · simp +decide only [ME, E, reduceIte, Nat.reduceAdd, Nat.reduceMul, Bool.not_true, Bool.not_false, L, ti3, ti52, ti54, ti59, M.Page.en, b7, q10, q11, q12, q25, q26, q27, q40, q41, q42, q53, q54, q55, q66, q67, q68, q81, q82, q83, q96, q97, q98, q109, q110, q111, f117, f118, f119, f120, f121, q124, q125, q126]
    exact MIs.mk _
  obtain ⟨y127, e128, h⟩ := bind_some h
  replace e128 := Option.some.inj e128
  refine man (msq ?_)
  refine MW_cut (J := fun s => s.t 0 = .unk ∧ s.m 0 = some (.top 0) ∧ s.t 1 = .v false [.dat (.int .i64 x112.2)] ∧ s.t 5 = .v false [.dat (.int .i64 v5)] ∧ s.ds = [.sl (List.map M.Page.en y127)] ∧ True) ?_ ?_
  · subst e128
    refine ⟨?_, ?_, ?_, ?_, ?_, trivial⟩ <;> (try simp +decide only [MF, F, reduceIte, Nat.reduceAdd, Bool.not_true, Bool.not_false, M.Page.en, b7, q10, q11, q12, q25, q26, q27, q40, q41, q42, q53, q54, q55, q66, q67, q68, q81, q82, q83, q96, q97, q98, q109, q110, q111, f117, f118, f119, f120, f121, q124, q125, q126])
  rintro s129 ⟨f130, f131, f132, f133, f134, _⟩
  apply MW_run
  · simp +decide only [ME, E, reduceIte, Nat.reduceAdd, Nat.reduceMul, Bool.not_true, Bool.not_false, L, b7, q10, q11, q12, q25, q26, q27, q40, q41, q42, q53, q54, q55, q66, q67, q68, q81, q82, q83, q96, q97, q98, q109, q110, q111, q124, q125, q126, f130, f131, f132, f133, f134]
    exact MIs.mk _
  refine man (msq ?_)
  obtain ⟨x135, h136, h⟩ := bind_some h
  obtain ⟨q137, q138, q139⟩ := idx_some h136
  apply MW_run
  · simp +decide only [ME, E, reduceIte, Nat.reduceAdd, Nat.reduceMul, Bool.not_true, Bool.not_false, Int.reduceEq, L, ti4, ti52, ti54, ti59, M.Page.en, b7, q10, q11, q12, q25, q26, q27, q40, q41, q42, q53, q54, q55, q66, q67, q68, q81, q82, q83, q96, q97, q98, q109, q110, q111, q124, q125, q126, f130, f131, f132, f133, f134, q137, q138, q139]
    exact MIs.mk _
  obtain ⟨y140, e141, h⟩ := bind_some h
  replace e141 := Option.some.inj e141
  refine man (msq ?_)
  refine MW_cut (J := fun s => s.t 0 = .unk ∧ s.m 0 = some (.top 0) ∧ s.t 1 = .v false [.dat (.int .i64 (IntKind.i64.wrap (x112.2 + 1)))] ∧ s.t 5 = .v false [.dat (.int .i64 v5)] ∧ s.ds = [.sl (List.map M.Page.en y140)] ∧ True) ?_ ?_
  · subst e141
    refine ⟨?_, ?_, ?_, ?_, ?_, trivial⟩ <;> (try simp +decide only [MF, F, reduceIte, Nat.reduceAdd, Bool.not_true, Bool.not_false, M.Page.en, b7, q10, q11, q12, q25, q26, q27, q40, q41, q42, q53, q54, q55, q66, q67, q68, q81, q82, q83, q96, q97, q98, q109, q110, q111, q124, q125, q126, f130, f131, f132, f133, f134, q137, q138, q139])
  rintro s142 ⟨f143, f144, f145, f146, f147, _⟩
  apply MW_run
  · simp +decide only [ME, E, reduceIte, Nat.reduceAdd, Nat.reduceMul, Bool.not_true, Bool.not_false, L, b7, q10, q11, q12, q25, q26, q27, q40, q41, q42, q53, q54, q55, q66, q67, q68, q81, q82, q83, q96, q97, q98, q109, q110, q111, q124, q125, q126, q137, q138, q139, f143, f144, f145, f146, f147]
    exact MIs.mk _
  refine man (msq ?_)
  obtain ⟨x148, h149, h⟩ := bind_some h
  obtain ⟨q150, q151, q152⟩ := idx_some h149
  apply MW_run
  · simp +decide only [ME, E, reduceIte, Nat.reduceAdd, Nat.reduceMul, Bool.not_true, Bool.not_false, Int.reduceEq, L, ti4, ti52, ti54, ti59, M.Page.en, b7, q10, q11, q12, q25, q26, q27, q40, q41, q42, q53, q54, q55, q66, q67, q68, q81, q82, q83, q96, q97, q98, q109, q110, q111, q124, q125, q126, q137, q138, q139, f143, f144, f145, f146, f147, q150, q151, q152]
    exact MIs.mk _
  obtain ⟨y153, e154, h⟩ := bind_some h
  replace e154 := Option.some.inj e154
  refine man ?_
  refine MW_cut (J := fun s => s.t 0 = .unk ∧ s.m 0 = some (.top 0) ∧ s.t 1 = .v false [.dat (.int .i64 (IntKind.i64.wrap ((IntKind.i64.wrap (x112.2 + 1)) + 1)))] ∧ s.t 5 = .v false [.dat (.int .i64 v5)] ∧ s.ds = [.sl (List.map M.Page.en y153)] ∧ True) ?_ ?_
  · subst e154
    refine ⟨?_, ?_, ?_, ?_, ?_, trivial⟩ <;> (try simp +decide only [MF, F, reduceIte, Nat.reduceAdd, Bool.not_true, Bool.not_false, M.Page.en, b7, q10, q11, q12, q25, q26, q27, q40, q41, q42, q53, q54, q55, q66, q67, q68, q81, q82, q83, q96, q97, q98, q109, q110, q111, q124, q125, q126, q137, q138, q139, f143, f144, f145, f146, f147, q150, q151, q152])
  rintro s155 ⟨f156, f157, f158, f159, f160, _⟩
  apply MW_run
  · simp +decide only [ME, E, reduceIte, Nat.reduceAdd, Nat.reduceMul, Bool.not_true, Bool.not_false, L, b7, q10, q11, q12, q25, q26, q27, q40, q41, q42, q53, q54, q55, q66, q67, q68, q81, q82, q83, q96, q97, q98, q109, q110, q111, q124, q125, q126, q137, q138, q139, q150, q151, q152, f156, f157, f158, f159, f160]
    exact MIs.mk _
  refine mab (man ?_)
  apply MW_run
  · simp +decide only [ME, E, reduceIte, Nat.reduceAdd, Nat.reduceMul, Bool.not_true, Bool.not_false, L, b7, q10, q11, q12, q25, q26, q27, q40, q41, q42, q53, q54, q55, q66, q67, q68, q81, q82, q83, q96, q97, q98, q109, q110, q111, q124, q125, q126, q137, q138, q139, q150, q151, q152, f156, f157, f158, f159, f160]
    exact MIs.mk _
  refine maft_i ⟨mL1, by omega, (IntKind.i64.wrap ((IntKind.i64.wrap ((IntKind.i64.wrap (x112.2 + 1)) + 1)) + 1)), (IntKind.i64.wrap (v5 + 1)), y153, ?_, ?_, ?_, ?_, ?_, h⟩
  all_goals simp +decide only [MF, F, reduceIte, Nat.reduceAdd, Bool.not_true, Bool.not_false, M.Page.en, b7, q10, q11, q12, q25, q26, q27, q40, q41, q42, q53, q54, q55, q66, q67, q68, q81, q82, q83, q96, q97, q98, q109, q110, q111, q124, q125, q126, q137, q138, q139, q150, q151, q152, f156, f157, f158, f159, f160]

end Go.Proofs.Ytfcfdnmhpdgjfaa.gen
