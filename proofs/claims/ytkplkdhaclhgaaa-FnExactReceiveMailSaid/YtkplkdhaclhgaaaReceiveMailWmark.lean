/-
  Helper text: walks: each function's contract out of its model. No conditions beyond those of each contract.
-/
import Derived.Test.YtkplkdhaclhgaaaReceiveMailTi
namespace Go.Proofs.Ytkplkdhaclhgaaa.gen
open Go Go.Sh
set_option linter.unusedVariables false
set_option linter.unusedSimpArgs false
set_option maxHeartbeats 4000000 in
theorem c_laws_markMailS (p0 : List M.Mail) (p1 : Int) (r : (List M.Mail × Int)) (h : m_laws_markMailS p0 p1 = some r) : MCalls Try.prog 20 false ([.sl (List.map M.Mail.en p0)]) ([.sl (List.map M.Mail.en r.1)]) p1 r.2 := by
  unfold m_laws_markMailS at h
  refine mcalls_of (N := 34) (r := 4) Try.func20 rfl rfl rfl (by decide +kernel) (by decide) fun cx => ?_
  refine msq (mrn ?_)
  refine man (msq (msq (mrn ?_)))
  refine man (mbk ?_)
  refine MW_loop (fun m s => ∃ v1 : Int, ∃ v5 : Int, ∃ r99 : List M.Mail, s.t 0 = .unk ∧ s.m 0 = some (.top 0) ∧ s.t 1 = .v false [.dat (.int .i64 v1)] ∧ s.t 5 = .v false [.dat (.int .i64 v5)] ∧ s.ds = [.sl (List.map M.Mail.en r99)] ∧ m_laws_markMailS_L1 m v1 v5 r99 = some r) fuel ?_ ?_
  · refine ⟨p1, 0, p0, ?_, ?_, ?_, ?_, ?_, h⟩
    all_goals simp +decide only [MF, F, reduceIte, Nat.reduceAdd, Bool.not_true, Bool.not_false, EN, *, -h]
  rintro mL1 s1 ⟨v1, v5, r99, f2, f3, f4, f5, f6, h⟩
  rcases mL1 with _ | mL1
  · exact absurd h (by simp [m_laws_markMailS_L1])
  simp only [m_laws_markMailS_L1] at h
  refine msq (msq (mrn ?_))
  refine man ?_
  rcases bcas (decide (v5 < (List.length r99 : Int))) with b7 | b7
  · replace h := ite_f b7 h
    refine mcf (mxt (maft_cx (maft_ix (maft_x (man (msq (mrn ?_)))))))
    refine man (mrt ?_)
    cases h
    refine ⟨?_, ?_⟩ <;> (try simp +decide only [MF, F, ME, reduceIte, Nat.reduceAdd, EN, *])
  replace h := ite_t b7 h
  refine mct (msk (man (msq (mbk (msq ?_)))))
  obtain ⟨x8, h9, h⟩ := bind_some h
  obtain ⟨q10, q11, q12⟩ := idx_some h9
  refine mrn ?_
  obtain ⟨y13, e14, h⟩ := bind_some h
  replace e14 := (Option.some.inj e14).symm
  refine man (msq ?_)
  refine mcu (fun s => s.t 0 = .unk ∧ s.m 0 = some (.top 0) ∧ s.t 1 = .v false [.dat (.int .i64 v1)] ∧ s.t 5 = .v false [.dat (.int .i64 v5)] ∧ s.ds = [.sl (List.map M.Mail.en y13)] ∧ True) ?_
  rintro s15 ⟨f16, f17, f18, f19, f20, _⟩
  clear e14
  refine mrn ?_
  refine man (msq ?_)
  obtain ⟨x21, h22, h⟩ := bind_some h
  obtain ⟨q23, q24, q25⟩ := idx_some h22
  refine mrn ?_
  obtain ⟨y26, e27, h⟩ := bind_some h
  replace e27 := (Option.some.inj e27).symm
  refine man (msq ?_)
  refine mcu (fun s => s.t 0 = .unk ∧ s.m 0 = some (.top 0) ∧ s.t 1 = .v false [.dat (.int .i64 (IntKind.i64.wrap (v1 + 1)))] ∧ s.t 5 = .v false [.dat (.int .i64 v5)] ∧ s.ds = [.sl (List.map M.Mail.en y26)] ∧ True) ?_
  rintro s28 ⟨f29, f30, f31, f32, f33, _⟩
  clear e27
  refine mrn ?_
  refine man (msq ?_)
  obtain ⟨x34, h35, h⟩ := bind_some h
  obtain ⟨q36, q37, q38⟩ := idx_some h35
  refine mrn ?_
  obtain ⟨y39, e40, h⟩ := bind_some h
  replace e40 := (Option.some.inj e40).symm
  refine man ?_
  refine mcu (fun s => s.t 0 = .unk ∧ s.m 0 = some (.top 0) ∧ s.t 1 = .v false [.dat (.int .i64 (IntKind.i64.wrap ((IntKind.i64.wrap (v1 + 1)) + 1)))] ∧ s.t 5 = .v false [.dat (.int .i64 v5)] ∧ s.ds = [.sl (List.map M.Mail.en y39)] ∧ True) ?_
  rintro s41 ⟨f42, f43, f44, f45, f46, _⟩
  clear e40
  refine mrn ?_
  refine mab (man (mrn ?_))
  refine maft_i ⟨mL1, by omega, (IntKind.i64.wrap ((IntKind.i64.wrap ((IntKind.i64.wrap (v1 + 1)) + 1)) + 1)), (IntKind.i64.wrap (v5 + 1)), y39, ?_, ?_, ?_, ?_, ?_, h⟩
  all_goals simp +decide only [MF, F, reduceIte, Nat.reduceAdd, Bool.not_true, Bool.not_false, EN, *, -h]

set_option maxHeartbeats 4000000 in
theorem c_laws_markChannel (p0 : M.Channel) (p1 : Int) (r : (List M.Mail × Int)) (h : m_laws_markChannel p0 p1 = some r) : MCalls Try.prog 10 true (M.Channel.en p0) ([.sl (List.map M.Mail.en r.1)]) p1 r.2 := by
  unfold m_laws_markChannel at h
  simp only [M.Channel.en]
  refine mcalls_of (N := 10) (r := 4) Try.func10 rfl rfl rfl (by decide +kernel) (by decide) fun cx => ?_
  refine msq (mrn ?_)
  refine man (msq ?_)
  obtain ⟨x1, h2, h⟩ := bind_some h
  refine mrn1 (c_laws_markMailS _ _ _ h2) ?_
  refine man (msq (mrn ?_))
  refine man (mrt ?_)
  cases h
  refine ⟨?_, ?_⟩ <;> (try simp +decide only [MF, F, ME, reduceIte, Nat.reduceAdd, EN, *])

end Go.Proofs.Ytkplkdhaclhgaaa.gen
