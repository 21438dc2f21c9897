/-
  Helper text: walks: each function's contract out of its model. No conditions beyond those of each contract.
-/
import Derived.Test.YtcpahpbjjnekkaaGreatNewWorldTi
import Derived.Test.YtcpahpbjjnekkaaGreatNewWorldWheld0
import Derived.Test.YtcpahpbjjnekkaaGreatNewWorldWmark0
namespace Go.Proofs.YtcpahpbjjnekkaaGreat.gen
open Go Go.Sh
set_option linter.unusedVariables false
set_option linter.unusedSimpArgs false
set_option maxRecDepth 20000 in
set_option maxHeartbeats 4000000 in
theorem c_laws_heldStorage (p0 : M.Storage) (p1 : Int) (r : Int) (h : m_laws_heldStorage p0 p1 = some r) : SCalls Tryz.prog 60 [(true, M.Storage.en p0), (false, [.int .i64 p1])] [(false, [.ro (.int .i64 r)])] := by
  unfold m_laws_heldStorage at h
  simp only [M.Storage.en]
  refine scalls_n (N := 12) (vars := [.tmp 4]) Tryz.func60 rfl rfl rfl (by decide +kernel) (Nat.le_of_ble_eq_true rfl) fun base wd => ?_
  refine sq (rn ?_)
  refine an (sq ?_)
  obtain ⟨x1, h2, h⟩ := bind_some h
  refine rn1 (c_laws_heldBucketS _ _ _ h2) ?_
  refine an (sq (sq (rn ?_)))
  refine an ?_
  rcases bcase (decide (x1 < 0)) with b3 | b3
  · replace h := ite_t b3 h
    refine ct (sq (rn ?_))
    refine an (rt ?_)
    cases h
    simp [Ret, TB, EN, *]
  replace h := ite_f b3 h
  refine cf (sk (an (sq (rn ?_))))
  refine an (rt ?_)
  cases h
  simp [Ret, TB, EN, *]

set_option maxRecDepth 20000 in
set_option maxHeartbeats 4000000 in
theorem c_laws_heldLoadedS (p0 : List M.Loaded) (p1 : Int) (r : Int) (h : m_laws_heldLoadedS p0 p1 = some r) : SCalls Tryz.prog 113 [(false, [.sl (List.map M.Loaded.en p0)]), (false, [.int .i64 p1])] [(false, [.ro (.int .i64 r)])] := by
  unfold m_laws_heldLoadedS at h
  refine scalls_n (N := 32) (vars := [.tmp 4]) Tryz.func113 rfl rfl rfl (by decide +kernel) (Nat.le_of_ble_eq_true rfl) fun base wd => ?_
  refine sq (rn ?_)
  refine an (sq (sq (rn ?_)))
  refine an (bk ?_)
  refine SW_loop (fun m s => ∃ v1 : Int, ∃ v5 : Int, s.t 0 = .v false [.dat (.sl (List.map M.Loaded.en p0))] ∧ s.t 1 = .v false [.dat (.int .i64 v1)] ∧ s.t 5 = .v false [.dat (.int .i64 v5)] ∧ m_laws_heldLoadedS_L1 p0 m v1 v5 = some r) fuel ?_ ?_
  · refine ⟨p1, 0, ?_, ?_, ?_, h⟩
    all_goals simp +decide only [F, reduceIte, Nat.reduceAdd, Bool.not_true, Bool.not_false, EN, *, -h]
  rintro mL1 s1 ⟨v1, v5, f2, f3, f4, h⟩
  rcases mL1 with _ | mL1
  · exact absurd h (by simp [m_laws_heldLoadedS_L1])
  simp only [m_laws_heldLoadedS_L1] at h
  refine sq (sq (rn ?_))
  refine an ?_
  rcases bcas (decide (v5 < (List.length p0 : Int))) with b5 | b5
  · replace h := ite_f b5 h
    refine cf (xt (aft_cx (aft_ix (aft_x (an (sq (rn ?_)))))))
    refine an (rt ?_)
    cases h
    simp [Ret, TB, EN, *]
  replace h := ite_t b5 h
  refine ct (sk (an (sq (bk (sq (sq ?_))))))
  obtain ⟨x6, h7, h⟩ := bind_some h
  obtain ⟨q8, q9, q10⟩ := idx_some h7
  obtain ⟨x11, h12, h⟩ := bind_some h
  refine rd1 mixed (c_laws_markText _ _ h12) ?_
  refine an ?_
  rcases bcase (!(x6.Path.toList == x11.toList)) with b13 | b13
  · replace h := ite_t b13 h
    refine ct (sq (rn ?_))
    refine an (rt ?_)
    cases h
    simp [Ret, TB, EN, *]
  replace h := ite_f b13 h
  refine cf (sk (an (sq (rn ?_))))
  refine an (sq (sq (rn ?_)))
  refine an ?_
  rcases bcase (x6.Version != (IntKind.i64.wrap (v1 + 1))) with b14 | b14
  · replace h := ite_t b14 h
    refine ct (sq (rn ?_))
    refine an (rt ?_)
    cases h
    simp [Ret, TB, EN, *]
  replace h := ite_f b14 h
  refine cf (sk (an (rn ?_)))
  refine ab (an (rn ?_))
  refine aft_i ⟨mL1, by omega, (IntKind.i64.wrap ((IntKind.i64.wrap (v1 + 1)) + 1)), (IntKind.i64.wrap (v5 + 1)), ?_, ?_, ?_, h⟩
  all_goals simp +decide only [F, reduceIte, Nat.reduceAdd, Bool.not_true, Bool.not_false, EN, *, -h]

set_option maxRecDepth 20000 in
set_option maxHeartbeats 4000000 in
theorem c_laws_heldInstrS (p0 : List M.Instr) (p1 : Int) (r : Int) (h : m_laws_heldInstrS p0 p1 = some r) : SCalls Tryz.prog 114 [(false, [.sl (List.map M.Instr.en p0)]), (false, [.int .i64 p1])] [(false, [.ro (.int .i64 r)])] := by
  unfold m_laws_heldInstrS at h
  refine scalls_n (N := 50) (vars := [.tmp 4]) Tryz.func114 rfl rfl rfl (by decide +kernel) (Nat.le_of_ble_eq_true rfl) fun base wd => ?_
  refine sq (rn ?_)
  refine an (sq (sq (rn ?_)))
  refine an (bk ?_)
  refine SW_loop (fun m s => ∃ v1 : Int, ∃ v5 : Int, s.t 0 = .v false [.dat (.sl (List.map M.Instr.en p0))] ∧ s.t 1 = .v false [.dat (.int .i64 v1)] ∧ s.t 5 = .v false [.dat (.int .i64 v5)] ∧ m_laws_heldInstrS_L1 p0 m v1 v5 = some r) fuel ?_ ?_
  · refine ⟨p1, 0, ?_, ?_, ?_, h⟩
    all_goals simp +decide only [F, reduceIte, Nat.reduceAdd, Bool.not_true, Bool.not_false, EN, *, -h]
  rintro mL1 s1 ⟨v1, v5, f2, f3, f4, h⟩
  rcases mL1 with _ | mL1
  · exact absurd h (by simp [m_laws_heldInstrS_L1])
  simp only [m_laws_heldInstrS_L1] at h
  refine sq (sq (rn ?_))
  refine an ?_
  rcases bcas (decide (v5 < (List.length p0 : Int))) with b5 | b5
  · replace h := ite_f b5 h
    refine cf (xt (aft_cx (aft_ix (aft_x (an (sq (rn ?_)))))))
    refine an (rt ?_)
    cases h
    simp [Ret, TB, EN, *]
  replace h := ite_t b5 h
  refine ct (sk (an (sq (bk (sq (sq ?_))))))
  obtain ⟨x6, h7, h⟩ := bind_some h
  obtain ⟨q8, q9, q10⟩ := idx_some h7
  refine rn ?_
  refine an ?_
  rcases bcase (x6.Kind != v1) with b11 | b11
  · replace h := ite_t b11 h
    refine ct (sq (rn ?_))
    refine an (rt ?_)
    cases h
    simp [Ret, TB, EN, *]
  replace h := ite_f b11 h
  refine cf (sk (an (sq (rn ?_))))
  refine an (sq (sq (rn ?_)))
  refine an ?_
  rcases bcase (x6.R != (IntKind.i64.wrap (v1 + 1))) with b12 | b12
  · replace h := ite_t b12 h
    refine ct (sq (rn ?_))
    refine an (rt ?_)
    cases h
    simp [Ret, TB, EN, *]
  replace h := ite_f b12 h
  refine cf (sk (an (sq (rn ?_))))
  refine an (sq (sq (rn ?_)))
  refine an ?_
  rcases bcase (x6.N != (IntKind.i64.wrap ((IntKind.i64.wrap (v1 + 1)) + 1))) with b13 | b13
  · replace h := ite_t b13 h
    refine ct (sq (rn ?_))
    refine an (rt ?_)
    cases h
    simp [Ret, TB, EN, *]
  replace h := ite_f b13 h
  refine cf (sk (an (sq (rn ?_))))
  refine an (sq (sq ?_))
  obtain ⟨x14, h15, h⟩ := bind_some h
  refine rd1 mixed (c_laws_markText _ _ h15) ?_
  refine an ?_
  rcases bcase (!(x6.Text.toList == x14.toList)) with b16 | b16
  · replace h := ite_t b16 h
    refine ct (sq (rn ?_))
    refine an (rt ?_)
    cases h
    simp [Ret, TB, EN, *]
  replace h := ite_f b16 h
  refine cf (sk (an (rn ?_)))
  refine ab (an (rn ?_))
  refine aft_i ⟨mL1, by omega, (IntKind.i64.wrap ((IntKind.i64.wrap ((IntKind.i64.wrap ((IntKind.i64.wrap (v1 + 1)) + 1)) + 1)) + 1)), (IntKind.i64.wrap (v5 + 1)), ?_, ?_, ?_, h⟩
  all_goals simp +decide only [F, reduceIte, Nat.reduceAdd, Bool.not_true, Bool.not_false, EN, *, -h]

set_option maxRecDepth 20000 in
set_option maxHeartbeats 4000000 in
theorem c_laws_heldIntS (p0 : List Int) (p1 : Int) (r : Int) (h : m_laws_heldIntS p0 p1 = some r) : SCalls Tryz.prog 29 [(false, [.sl (List.map enI p0)]), (false, [.int .i64 p1])] [(false, [.ro (.int .i64 r)])] := by
  unfold m_laws_heldIntS at h
  refine scalls_n (N := 21) (vars := [.tmp 4]) Tryz.func29 rfl rfl rfl (by decide +kernel) (Nat.le_of_ble_eq_true rfl) fun base wd => ?_
  refine sq (rn ?_)
  refine an (sq (sq (rn ?_)))
  refine an (bk ?_)
  refine SW_loop (fun m s => ∃ v1 : Int, ∃ v5 : Int, s.t 0 = .v false [.dat (.sl (List.map enI p0))] ∧ s.t 1 = .v false [.dat (.int .i64 v1)] ∧ s.t 5 = .v false [.dat (.int .i64 v5)] ∧ m_laws_heldIntS_L1 p0 m v1 v5 = some r) fuel ?_ ?_
  · refine ⟨p1, 0, ?_, ?_, ?_, h⟩
    all_goals simp +decide only [F, reduceIte, Nat.reduceAdd, Bool.not_true, Bool.not_false, EN, *, -h]
  rintro mL1 s1 ⟨v1, v5, f2, f3, f4, h⟩
  rcases mL1 with _ | mL1
  · exact absurd h (by simp [m_laws_heldIntS_L1])
  simp only [m_laws_heldIntS_L1] at h
  refine sq (sq (rn ?_))
  refine an ?_
  rcases bcas (decide (v5 < (List.length p0 : Int))) with b5 | b5
  · replace h := ite_f b5 h
    refine cf (xt (aft_cx (aft_ix (aft_x (an (sq (rn ?_)))))))
    refine an (rt ?_)
    cases h
    simp [Ret, TB, EN, *]
  replace h := ite_t b5 h
  refine ct (sk (an (sq (bk (sq (sq ?_))))))
  obtain ⟨x6, h7, h⟩ := bind_some h
  obtain ⟨q8, q9, q10⟩ := idx_some h7
  refine rn ?_
  refine an ?_
  rcases bcase (x6 != v1) with b11 | b11
  · replace h := ite_t b11 h
    refine ct (sq (rn ?_))
    refine an (rt ?_)
    cases h
    simp [Ret, TB, EN, *]
  replace h := ite_f b11 h
  refine cf (sk (an (rn ?_)))
  refine ab (an (rn ?_))
  refine aft_i ⟨mL1, by omega, (IntKind.i64.wrap (v1 + 1)), (IntKind.i64.wrap (v5 + 1)), ?_, ?_, ?_, h⟩
  all_goals simp +decide only [F, reduceIte, Nat.reduceAdd, Bool.not_true, Bool.not_false, EN, *, -h]

set_option maxRecDepth 20000 in
set_option maxHeartbeats 4000000 in
theorem c_laws_heldPageS (p0 : List M.Page) (p1 : Int) (r : Int) (h : m_laws_heldPageS p0 p1 = some r) : SCalls Tryz.prog 44 [(false, [.sl (List.map M.Page.en p0)]), (false, [.int .i64 p1])] [(false, [.ro (.int .i64 r)])] := by
  unfold m_laws_heldPageS at h
  refine scalls_n (N := 124) (vars := [.tmp 4]) Tryz.func44 rfl rfl rfl (by decide +kernel) (Nat.le_of_ble_eq_true rfl) fun base wd => ?_
  refine sq (rn ?_)
  refine an (sq (sq (rn ?_)))
  refine an (bk ?_)
  refine SW_loop (fun m s => ∃ v1 : Int, ∃ v5 : Int, s.t 0 = .v false [.dat (.sl (List.map M.Page.en p0))] ∧ s.t 1 = .v false [.dat (.int .i64 v1)] ∧ s.t 5 = .v false [.dat (.int .i64 v5)] ∧ m_laws_heldPageS_L1 p0 m v1 v5 = some r) fuel ?_ ?_
  · refine ⟨p1, 0, ?_, ?_, ?_, h⟩
    all_goals simp +decide only [F, reduceIte, Nat.reduceAdd, Bool.not_true, Bool.not_false, EN, *, -h]
  rintro mL1 s1 ⟨v1, v5, f2, f3, f4, h⟩
  rcases mL1 with _ | mL1
  · exact absurd h (by simp [m_laws_heldPageS_L1])
  simp only [m_laws_heldPageS_L1] at h
  refine sq (sq (rn ?_))
  refine an ?_
  rcases bcas (decide (v5 < (List.length p0 : Int))) with b5 | b5
  · replace h := ite_f b5 h
    refine cf (xt (aft_cx (aft_ix (aft_x (an (sq (rn ?_)))))))
    refine an (rt ?_)
    cases h
    simp [Ret, TB, EN, *]
  replace h := ite_t b5 h
  refine ct (sk (an (sq (bk (sq (sq ?_))))))
  obtain ⟨x6, h7, h⟩ := bind_some h
  obtain ⟨q8, q9, q10⟩ := idx_some h7
  refine rn ?_
  refine an ?_
  rcases bcase (x6.Id != v1) with b11 | b11
  · replace h := ite_t b11 h
    refine ct (sq (rn ?_))
    refine an (rt ?_)
    cases h
    simp [Ret, TB, EN, *]
  replace h := ite_f b11 h
  refine cf (sk (an (sq (rn ?_))))
  refine an (sq (sq ?_))
  obtain ⟨x12, h13, h⟩ := bind_some h
  refine rd1 mixed (c_laws_markText _ _ h13) ?_
  refine an ?_
  rcases bcase (!(x6.Site.toList == x12.toList)) with b14 | b14
  · replace h := ite_t b14 h
    refine ct (sq (rn ?_))
    refine an (rt ?_)
    cases h
    simp [Ret, TB, EN, *]
  replace h := ite_f b14 h
  refine cf (sk (an (sq (rn ?_))))
  refine an (sq (sq ?_))
  obtain ⟨x15, h16, h⟩ := bind_some h
  refine rd1 mixed (c_laws_markText _ _ h16) ?_
  refine an ?_
  rcases bcase (!(x6.Top.toList == x15.toList)) with b17 | b17
  · replace h := ite_t b17 h
    refine ct (sq (rn ?_))
    refine an (rt ?_)
    cases h
    simp [Ret, TB, EN, *]
  replace h := ite_f b17 h
  refine cf (sk (an (sq (rn ?_))))
  refine an (sq (sq (rn ?_)))
  refine an ?_
  rcases bcase (x6.Version != (IntKind.i64.wrap ((IntKind.i64.wrap ((IntKind.i64.wrap (v1 + 1)) + 1)) + 1))) with b18 | b18
  · replace h := ite_t b18 h
    refine ct (sq (rn ?_))
    refine an (rt ?_)
    cases h
    simp [Ret, TB, EN, *]
  replace h := ite_f b18 h
  refine cf (sk (an (sq (rn ?_))))
  refine an (sq ?_)
  obtain ⟨x19, h20, h⟩ := bind_some h
  refine rn1 (c_laws_heldLoadedS _ _ _ h20) ?_
  refine an (sq (sq (rn ?_)))
  refine an ?_
  rcases bcase (decide (x19 < 0)) with b21 | b21
  · replace h := ite_t b21 h
    refine ct (sq (rn ?_))
    refine an (rt ?_)
    cases h
    simp [Ret, TB, EN, *]
  replace h := ite_f b21 h
  refine cf (sk (an (sq ?_)))
  obtain ⟨x22, h23, h⟩ := bind_some h
  refine rn1 (c_laws_heldInstrS _ _ _ h23) ?_
  refine an (sq (sq (rn ?_)))
  refine an ?_
  rcases bcase (decide (x22 < 0)) with b24 | b24
  · replace h := ite_t b24 h
    refine ct (sq (rn ?_))
    refine an (rt ?_)
    cases h
    simp [Ret, TB, EN, *]
  replace h := ite_f b24 h
  refine cf (sk (an (sq (sq ?_))))
  refine cu (fun s => s.t 0 = .v false [.dat (.sl (List.map M.Page.en p0))] ∧ s.t 1 = .v false [.dat (.int .i64 x22)] ∧ s.t 5 = .v false [.dat (.int .i64 v5)] ∧ True) ?_
  rintro s25 ⟨f26, f27, f28, _⟩
  refine rn ?_
  refine an ?_
  rcases bcase (x6.Machine.Pc != x22) with b29 | b29
  · replace h := ite_t b29 h
    refine ct (sq (rn ?_))
    refine an (rt ?_)
    cases h
    simp [Ret, TB, EN, *]
  replace h := ite_f b29 h
  refine cf (sk (an (sq (rn ?_))))
  refine an (sq ?_)
  obtain ⟨x30, h31, h⟩ := bind_some h
  refine rn1 (c_laws_heldIntS _ _ _ h31) ?_
  refine an (sq (sq (rn ?_)))
  refine an ?_
  rcases bcase (decide (x30 < 0)) with b32 | b32
  · replace h := ite_t b32 h
    refine ct (sq (rn ?_))
    refine an (rt ?_)
    cases h
    simp [Ret, TB, EN, *]
  replace h := ite_f b32 h
  refine cf (sk (an (sq (sq (rn ?_)))))
  refine an ?_
  rcases bcase (x6.Machine.Steps != x30) with b33 | b33
  · replace h := ite_t b33 h
    refine ct (sq (rn ?_))
    refine an (rt ?_)
    cases h
    simp [Ret, TB, EN, *]
  replace h := ite_f b33 h
  refine cf (sk (an (sq (rn ?_))))
  refine an (sq (sq (rn ?_)))
  refine an ?_
  rcases bcase (!(x6.Machine.Done == ((Int.tmod (IntKind.i64.wrap (x30 + 1)) 3) == 0))) with b34 | b34
  · replace h := ite_t b34 h
    refine ct (sq (rn ?_))
    refine an (rt ?_)
    cases h
    simp [Ret, TB, EN, *]
  replace h := ite_f b34 h
  refine cf (sk (an (sq (rn ?_))))
  refine an (sq (sq (rn ?_)))
  refine an ?_
  rcases bcase (!(x6.Machine.Wait == ((Int.tmod (IntKind.i64.wrap ((IntKind.i64.wrap (x30 + 1)) + 1)) 3) == 0))) with b35 | b35
  · replace h := ite_t b35 h
    refine ct (sq (rn ?_))
    refine an (rt ?_)
    cases h
    simp [Ret, TB, EN, *]
  replace h := ite_f b35 h
  refine cf (sk (an (rn ?_)))
  refine ab (an (rn ?_))
  refine aft_i ⟨mL1, by omega, (IntKind.i64.wrap ((IntKind.i64.wrap ((IntKind.i64.wrap (x30 + 1)) + 1)) + 1)), (IntKind.i64.wrap (v5 + 1)), ?_, ?_, ?_, h⟩
  all_goals simp +decide only [F, reduceIte, Nat.reduceAdd, Bool.not_true, Bool.not_false, EN, *, -h]

set_option maxRecDepth 20000 in
set_option maxHeartbeats 4000000 in
theorem c_laws_heldLockS (p0 : List M.Lock) (p1 : Int) (r : Int) (h : m_laws_heldLockS p0 p1 = some r) : SCalls Tryz.prog 137 [(false, [.sl (List.map M.Lock.en p0)]), (false, [.int .i64 p1])] [(false, [.ro (.int .i64 r)])] := by
  unfold m_laws_heldLockS at h
  refine scalls_n (N := 54) (vars := [.tmp 4]) Tryz.func137 rfl rfl rfl (by decide +kernel) (Nat.le_of_ble_eq_true rfl) fun base wd => ?_
  refine sq (rn ?_)
  refine an (sq (sq (rn ?_)))
  refine an (bk ?_)
  refine SW_loop (fun m s => ∃ v1 : Int, ∃ v5 : Int, s.t 0 = .v false [.dat (.sl (List.map M.Lock.en p0))] ∧ s.t 1 = .v false [.dat (.int .i64 v1)] ∧ s.t 5 = .v false [.dat (.int .i64 v5)] ∧ m_laws_heldLockS_L1 p0 m v1 v5 = some r) fuel ?_ ?_
  · refine ⟨p1, 0, ?_, ?_, ?_, h⟩
    all_goals simp +decide only [F, reduceIte, Nat.reduceAdd, Bool.not_true, Bool.not_false, EN, *, -h]
  rintro mL1 s1 ⟨v1, v5, f2, f3, f4, h⟩
  rcases mL1 with _ | mL1
  · exact absurd h (by simp [m_laws_heldLockS_L1])
  simp only [m_laws_heldLockS_L1] at h
  refine sq (sq (rn ?_))
  refine an ?_
  rcases bcas (decide (v5 < (List.length p0 : Int))) with b5 | b5
  · replace h := ite_f b5 h
    refine cf (xt (aft_cx (aft_ix (aft_x (an (sq (rn ?_)))))))
    refine an (rt ?_)
    cases h
    simp [Ret, TB, EN, *]
  replace h := ite_t b5 h
  refine ct (sk (an (sq (bk (sq (sq ?_))))))
  obtain ⟨x6, h7, h⟩ := bind_some h
  obtain ⟨q8, q9, q10⟩ := idx_some h7
  obtain ⟨x11, h12, h⟩ := bind_some h
  refine rd1 mixed (c_laws_markText _ _ h12) ?_
  refine an ?_
  rcases bcase (!(x6.Name.toList == x11.toList)) with b13 | b13
  · replace h := ite_t b13 h
    refine ct (sq (rn ?_))
    refine an (rt ?_)
    cases h
    simp [Ret, TB, EN, *]
  replace h := ite_f b13 h
  refine cf (sk (an (sq (rn ?_))))
  refine an (sq (sq (rn ?_)))
  refine an ?_
  rcases bcase (x6.Page != (IntKind.i64.wrap (v1 + 1))) with b14 | b14
  · replace h := ite_t b14 h
    refine ct (sq (rn ?_))
    refine an (rt ?_)
    cases h
    simp [Ret, TB, EN, *]
  replace h := ite_f b14 h
  refine cf (sk (an (sq (rn ?_))))
  refine an (sq (sq (rn ?_)))
  refine an ?_
  rcases bcase (!(x6.Shared == ((Int.tmod (IntKind.i64.wrap ((IntKind.i64.wrap (v1 + 1)) + 1)) 3) == 0))) with b15 | b15
  · replace h := ite_t b15 h
    refine ct (sq (rn ?_))
    refine an (rt ?_)
    cases h
    simp [Ret, TB, EN, *]
  replace h := ite_f b15 h
  refine cf (sk (an (sq (rn ?_))))
  refine an (sq (sq (rn ?_)))
  refine an ?_
  rcases bcase (!(x6.Held == ((Int.tmod (IntKind.i64.wrap ((IntKind.i64.wrap ((IntKind.i64.wrap (v1 + 1)) + 1)) + 1)) 3) == 0))) with b16 | b16
  · replace h := ite_t b16 h
    refine ct (sq (rn ?_))
    refine an (rt ?_)
    cases h
    simp [Ret, TB, EN, *]
  replace h := ite_f b16 h
  refine cf (sk (an (rn ?_)))
  refine ab (an (rn ?_))
  refine aft_i ⟨mL1, by omega, (IntKind.i64.wrap ((IntKind.i64.wrap ((IntKind.i64.wrap ((IntKind.i64.wrap (v1 + 1)) + 1)) + 1)) + 1)), (IntKind.i64.wrap (v5 + 1)), ?_, ?_, ?_, h⟩
  all_goals simp +decide only [F, reduceIte, Nat.reduceAdd, Bool.not_true, Bool.not_false, EN, *, -h]

set_option maxRecDepth 20000 in
set_option maxHeartbeats 4000000 in
theorem c_laws_heldLockTable (p0 : M.LockTable) (p1 : Int) (r : Int) (h : m_laws_heldLockTable p0 p1 = some r) : SCalls Tryz.prog 61 [(true, M.LockTable.en p0), (false, [.int .i64 p1])] [(false, [.ro (.int .i64 r)])] := by
  unfold m_laws_heldLockTable at h
  simp only [M.LockTable.en]
  refine scalls_n (N := 12) (vars := [.tmp 4]) Tryz.func61 rfl rfl rfl (by decide +kernel) (Nat.le_of_ble_eq_true rfl) fun base wd => ?_
  refine sq (rn ?_)
  refine an (sq ?_)
  obtain ⟨x1, h2, h⟩ := bind_some h
  refine rn1 (c_laws_heldLockS _ _ _ h2) ?_
  refine an (sq (sq (rn ?_)))
  refine an ?_
  rcases bcase (decide (x1 < 0)) with b3 | b3
  · replace h := ite_t b3 h
    refine ct (sq (rn ?_))
    refine an (rt ?_)
    cases h
    simp [Ret, TB, EN, *]
  replace h := ite_f b3 h
  refine cf (sk (an (sq (rn ?_))))
  refine an (rt ?_)
  cases h
  simp [Ret, TB, EN, *]

set_option maxRecDepth 20000 in
set_option maxHeartbeats 4000000 in
theorem c_laws_heldMailS (p0 : List M.Mail) (p1 : Int) (r : Int) (h : m_laws_heldMailS p0 p1 = some r) : SCalls Tryz.prog 138 [(false, [.sl (List.map M.Mail.en p0)]), (false, [.int .i64 p1])] [(false, [.ro (.int .i64 r)])] := by
  unfold m_laws_heldMailS at h
  refine scalls_n (N := 40) (vars := [.tmp 4]) Tryz.func138 rfl rfl rfl (by decide +kernel) (Nat.le_of_ble_eq_true rfl) fun base wd => ?_
  refine sq (rn ?_)
  refine an (sq (sq (rn ?_)))
  refine an (bk ?_)
  refine SW_loop (fun m s => ∃ v1 : Int, ∃ v5 : Int, s.t 0 = .v false [.dat (.sl (List.map M.Mail.en p0))] ∧ s.t 1 = .v false [.dat (.int .i64 v1)] ∧ s.t 5 = .v false [.dat (.int .i64 v5)] ∧ m_laws_heldMailS_L1 p0 m v1 v5 = some r) fuel ?_ ?_
  · refine ⟨p1, 0, ?_, ?_, ?_, h⟩
    all_goals simp +decide only [F, reduceIte, Nat.reduceAdd, Bool.not_true, Bool.not_false, EN, *, -h]
  rintro mL1 s1 ⟨v1, v5, f2, f3, f4, h⟩
  rcases mL1 with _ | mL1
  · exact absurd h (by simp [m_laws_heldMailS_L1])
  simp only [m_laws_heldMailS_L1] at h
  refine sq (sq (rn ?_))
  refine an ?_
  rcases bcas (decide (v5 < (List.length p0 : Int))) with b5 | b5
  · replace h := ite_f b5 h
    refine cf (xt (aft_cx (aft_ix (aft_x (an (sq (rn ?_)))))))
    refine an (rt ?_)
    cases h
    simp [Ret, TB, EN, *]
  replace h := ite_t b5 h
  refine ct (sk (an (sq (bk (sq (sq ?_))))))
  obtain ⟨x6, h7, h⟩ := bind_some h
  obtain ⟨q8, q9, q10⟩ := idx_some h7
  refine rn ?_
  refine an ?_
  rcases bcase (x6.To != v1) with b11 | b11
  · replace h := ite_t b11 h
    refine ct (sq (rn ?_))
    refine an (rt ?_)
    cases h
    simp [Ret, TB, EN, *]
  replace h := ite_f b11 h
  refine cf (sk (an (sq (rn ?_))))
  refine an (sq (sq (rn ?_)))
  refine an ?_
  rcases bcase (x6.From != (IntKind.i64.wrap (v1 + 1))) with b12 | b12
  · replace h := ite_t b12 h
    refine ct (sq (rn ?_))
    refine an (rt ?_)
    cases h
    simp [Ret, TB, EN, *]
  replace h := ite_f b12 h
  refine cf (sk (an (sq (rn ?_))))
  refine an (sq (sq (rn ?_)))
  refine an ?_
  rcases bcase (x6.N != (IntKind.i64.wrap ((IntKind.i64.wrap (v1 + 1)) + 1))) with b13 | b13
  · replace h := ite_t b13 h
    refine ct (sq (rn ?_))
    refine an (rt ?_)
    cases h
    simp [Ret, TB, EN, *]
  replace h := ite_f b13 h
  refine cf (sk (an (rn ?_)))
  refine ab (an (rn ?_))
  refine aft_i ⟨mL1, by omega, (IntKind.i64.wrap ((IntKind.i64.wrap ((IntKind.i64.wrap (v1 + 1)) + 1)) + 1)), (IntKind.i64.wrap (v5 + 1)), ?_, ?_, ?_, h⟩
  all_goals simp +decide only [F, reduceIte, Nat.reduceAdd, Bool.not_true, Bool.not_false, EN, *, -h]

set_option maxRecDepth 20000 in
set_option maxHeartbeats 4000000 in
theorem c_laws_heldChannel (p0 : M.Channel) (p1 : Int) (r : Int) (h : m_laws_heldChannel p0 p1 = some r) : SCalls Tryz.prog 62 [(true, M.Channel.en p0), (false, [.int .i64 p1])] [(false, [.ro (.int .i64 r)])] := by
  unfold m_laws_heldChannel at h
  simp only [M.Channel.en]
  refine scalls_n (N := 12) (vars := [.tmp 4]) Tryz.func62 rfl rfl rfl (by decide +kernel) (Nat.le_of_ble_eq_true rfl) fun base wd => ?_
  refine sq (rn ?_)
  refine an (sq ?_)
  obtain ⟨x1, h2, h⟩ := bind_some h
  refine rn1 (c_laws_heldMailS _ _ _ h2) ?_
  refine an (sq (sq (rn ?_)))
  refine an ?_
  rcases bcase (decide (x1 < 0)) with b3 | b3
  · replace h := ite_t b3 h
    refine ct (sq (rn ?_))
    refine an (rt ?_)
    cases h
    simp [Ret, TB, EN, *]
  replace h := ite_f b3 h
  refine cf (sk (an (sq (rn ?_))))
  refine an (rt ?_)
  cases h
  simp [Ret, TB, EN, *]

set_option maxRecDepth 20000 in
set_option maxHeartbeats 4000000 in
theorem c_laws_heldStringS (p0 : List ByteArray) (p1 : Int) (r : Int) (h : m_laws_heldStringS p0 p1 = some r) : SCalls Tryz.prog 139 [(false, [.sl (List.map enS p0)]), (false, [.int .i64 p1])] [(false, [.ro (.int .i64 r)])] := by
  unfold m_laws_heldStringS at h
  refine scalls_n (N := 22) (vars := [.tmp 4]) Tryz.func139 rfl rfl rfl (by decide +kernel) (Nat.le_of_ble_eq_true rfl) fun base wd => ?_
  refine sq (rn ?_)
  refine an (sq (sq (rn ?_)))
  refine an (bk ?_)
  refine SW_loop (fun m s => ∃ v1 : Int, ∃ v5 : Int, s.t 0 = .v false [.dat (.sl (List.map enS p0))] ∧ s.t 1 = .v false [.dat (.int .i64 v1)] ∧ s.t 5 = .v false [.dat (.int .i64 v5)] ∧ m_laws_heldStringS_L1 p0 m v1 v5 = some r) fuel ?_ ?_
  · refine ⟨p1, 0, ?_, ?_, ?_, h⟩
    all_goals simp +decide only [F, reduceIte, Nat.reduceAdd, Bool.not_true, Bool.not_false, EN, *, -h]
  rintro mL1 s1 ⟨v1, v5, f2, f3, f4, h⟩
  rcases mL1 with _ | mL1
  · exact absurd h (by simp [m_laws_heldStringS_L1])
  simp only [m_laws_heldStringS_L1] at h
  refine sq (sq (rn ?_))
  refine an ?_
  rcases bcas (decide (v5 < (List.length p0 : Int))) with b5 | b5
  · replace h := ite_f b5 h
    refine cf (xt (aft_cx (aft_ix (aft_x (an (sq (rn ?_)))))))
    refine an (rt ?_)
    cases h
    simp [Ret, TB, EN, *]
  replace h := ite_t b5 h
  refine ct (sk (an (sq (bk (sq (sq ?_))))))
  obtain ⟨x6, h7, h⟩ := bind_some h
  obtain ⟨q8, q9, q10⟩ := idx_some h7
  obtain ⟨x11, h12, h⟩ := bind_some h
  refine rd1 mixed (c_laws_markText _ _ h12) ?_
  refine an ?_
  rcases bcase (!(x6.toList == x11.toList)) with b13 | b13
  · replace h := ite_t b13 h
    refine ct (sq (rn ?_))
    refine an (rt ?_)
    cases h
    simp [Ret, TB, EN, *]
  replace h := ite_f b13 h
  refine cf (sk (an (rn ?_)))
  refine ab (an (rn ?_))
  refine aft_i ⟨mL1, by omega, (IntKind.i64.wrap (v1 + 1)), (IntKind.i64.wrap (v5 + 1)), ?_, ?_, ?_, h⟩
  all_goals simp +decide only [F, reduceIte, Nat.reduceAdd, Bool.not_true, Bool.not_false, EN, *, -h]

set_option maxRecDepth 20000 in
set_option maxHeartbeats 4000000 in
theorem c_laws_heldSiteS (p0 : List M.Site) (p1 : Int) (r : Int) (h : m_laws_heldSiteS p0 p1 = some r) : SCalls Tryz.prog 63 [(false, [.sl (List.map M.Site.en p0)]), (false, [.int .i64 p1])] [(false, [.ro (.int .i64 r)])] := by
  unfold m_laws_heldSiteS at h
  refine scalls_n (N := 52) (vars := [.tmp 4]) Tryz.func63 rfl rfl rfl (by decide +kernel) (Nat.le_of_ble_eq_true rfl) fun base wd => ?_
  refine sq (rn ?_)
  refine an (sq (sq (rn ?_)))
  refine an (bk ?_)
  refine SW_loop (fun m s => ∃ v1 : Int, ∃ v5 : Int, s.t 0 = .v false [.dat (.sl (List.map M.Site.en p0))] ∧ s.t 1 = .v false [.dat (.int .i64 v1)] ∧ s.t 5 = .v false [.dat (.int .i64 v5)] ∧ m_laws_heldSiteS_L1 p0 m v1 v5 = some r) fuel ?_ ?_
  · refine ⟨p1, 0, ?_, ?_, ?_, h⟩
    all_goals simp +decide only [F, reduceIte, Nat.reduceAdd, Bool.not_true, Bool.not_false, EN, *, -h]
  rintro mL1 s1 ⟨v1, v5, f2, f3, f4, h⟩
  rcases mL1 with _ | mL1
  · exact absurd h (by simp [m_laws_heldSiteS_L1])
  simp only [m_laws_heldSiteS_L1] at h
  refine sq (sq (rn ?_))
  refine an ?_
  rcases bcas (decide (v5 < (List.length p0 : Int))) with b5 | b5
  · replace h := ite_f b5 h
    refine cf (xt (aft_cx (aft_ix (aft_x (an (sq (rn ?_)))))))
    refine an (rt ?_)
    cases h
    simp [Ret, TB, EN, *]
  replace h := ite_t b5 h
  refine ct (sk (an (sq (bk (sq (sq ?_))))))
  obtain ⟨x6, h7, h⟩ := bind_some h
  obtain ⟨q8, q9, q10⟩ := idx_some h7
  obtain ⟨x11, h12, h⟩ := bind_some h
  refine rd1 mixed (c_laws_markText _ _ h12) ?_
  refine an ?_
  rcases bcase (!(x6.Name.toList == x11.toList)) with b13 | b13
  · replace h := ite_t b13 h
    refine ct (sq (rn ?_))
    refine an (rt ?_)
    cases h
    simp [Ret, TB, EN, *]
  replace h := ite_f b13 h
  refine cf (sk (an (sq (rn ?_))))
  refine an (sq (sq (rn ?_)))
  refine an ?_
  rcases bcase (x6.Version != (IntKind.i64.wrap (v1 + 1))) with b14 | b14
  · replace h := ite_t b14 h
    refine ct (sq (rn ?_))
    refine an (rt ?_)
    cases h
    simp [Ret, TB, EN, *]
  replace h := ite_f b14 h
  refine cf (sk (an (sq (rn ?_))))
  refine an (sq ?_)
  obtain ⟨x15, h16, h⟩ := bind_some h
  refine rn1 (c_laws_heldStringS _ _ _ h16) ?_
  refine an (sq (sq (rn ?_)))
  refine an ?_
  rcases bcase (decide (x15 < 0)) with b17 | b17
  · replace h := ite_t b17 h
    refine ct (sq (rn ?_))
    refine an (rt ?_)
    cases h
    simp [Ret, TB, EN, *]
  replace h := ite_f b17 h
  refine cf (sk (an (sq (sq (rn ?_)))))
  refine an ?_
  rcases bcase (!(x6.Shared == ((Int.tmod x15 3) == 0))) with b18 | b18
  · replace h := ite_t b18 h
    refine ct (sq (rn ?_))
    refine an (rt ?_)
    cases h
    simp [Ret, TB, EN, *]
  replace h := ite_f b18 h
  refine cf (sk (an (rn ?_)))
  refine ab (an (rn ?_))
  refine aft_i ⟨mL1, by omega, (IntKind.i64.wrap (x15 + 1)), (IntKind.i64.wrap (v5 + 1)), ?_, ?_, ?_, h⟩
  all_goals simp +decide only [F, reduceIte, Nat.reduceAdd, Bool.not_true, Bool.not_false, EN, *, -h]

set_option maxRecDepth 20000 in
set_option maxHeartbeats 4000000 in
theorem c_laws_heldAppliedS (p0 : List M.Applied) (p1 : Int) (r : Int) (h : m_laws_heldAppliedS p0 p1 = some r) : SCalls Tryz.prog 140 [(false, [.sl (List.map M.Applied.en p0)]), (false, [.int .i64 p1])] [(false, [.ro (.int .i64 r)])] := by
  unfold m_laws_heldAppliedS at h
  refine scalls_n (N := 31) (vars := [.tmp 4]) Tryz.func140 rfl rfl rfl (by decide +kernel) (Nat.le_of_ble_eq_true rfl) fun base wd => ?_
  refine sq (rn ?_)
  refine an (sq (sq (rn ?_)))
  refine an (bk ?_)
  refine SW_loop (fun m s => ∃ v1 : Int, ∃ v5 : Int, s.t 0 = .v false [.dat (.sl (List.map M.Applied.en p0))] ∧ s.t 1 = .v false [.dat (.int .i64 v1)] ∧ s.t 5 = .v false [.dat (.int .i64 v5)] ∧ m_laws_heldAppliedS_L1 p0 m v1 v5 = some r) fuel ?_ ?_
  · refine ⟨p1, 0, ?_, ?_, ?_, h⟩
    all_goals simp +decide only [F, reduceIte, Nat.reduceAdd, Bool.not_true, Bool.not_false, EN, *, -h]
  rintro mL1 s1 ⟨v1, v5, f2, f3, f4, h⟩
  rcases mL1 with _ | mL1
  · exact absurd h (by simp [m_laws_heldAppliedS_L1])
  simp only [m_laws_heldAppliedS_L1] at h
  refine sq (sq (rn ?_))
  refine an ?_
  rcases bcas (decide (v5 < (List.length p0 : Int))) with b5 | b5
  · replace h := ite_f b5 h
    refine cf (xt (aft_cx (aft_ix (aft_x (an (sq (rn ?_)))))))
    refine an (rt ?_)
    cases h
    simp [Ret, TB, EN, *]
  replace h := ite_t b5 h
  refine ct (sk (an (sq (bk (sq (sq ?_))))))
  obtain ⟨x6, h7, h⟩ := bind_some h
  obtain ⟨q8, q9, q10⟩ := idx_some h7
  refine rn ?_
  refine an ?_
  rcases bcase (x6.Device != v1) with b11 | b11
  · replace h := ite_t b11 h
    refine ct (sq (rn ?_))
    refine an (rt ?_)
    cases h
    simp [Ret, TB, EN, *]
  replace h := ite_f b11 h
  refine cf (sk (an (sq (rn ?_))))
  refine an (sq (sq (rn ?_)))
  refine an ?_
  rcases bcase (x6.Seq != (IntKind.i64.wrap (v1 + 1))) with b12 | b12
  · replace h := ite_t b12 h
    refine ct (sq (rn ?_))
    refine an (rt ?_)
    cases h
    simp [Ret, TB, EN, *]
  replace h := ite_f b12 h
  refine cf (sk (an (rn ?_)))
  refine ab (an (rn ?_))
  refine aft_i ⟨mL1, by omega, (IntKind.i64.wrap ((IntKind.i64.wrap (v1 + 1)) + 1)), (IntKind.i64.wrap (v5 + 1)), ?_, ?_, ?_, h⟩
  all_goals simp +decide only [F, reduceIte, Nat.reduceAdd, Bool.not_true, Bool.not_false, EN, *, -h]

set_option maxRecDepth 20000 in
set_option maxHeartbeats 4000000 in
theorem c_laws_heldServerS (p0 : List M.Server) (p1 : Int) (r : Int) (h : m_laws_heldServerS p0 p1 = some r) : SCalls Tryz.prog 64 [(false, [.sl (List.map M.Server.en p0)]), (false, [.int .i64 p1])] [(false, [.ro (.int .i64 r)])] := by
  unfold m_laws_heldServerS at h
  refine scalls_n (N := 62) (vars := [.tmp 4]) Tryz.func64 rfl rfl rfl (by decide +kernel) (Nat.le_of_ble_eq_true rfl) fun base wd => ?_
  refine sq (rn ?_)
  refine an (sq (sq (rn ?_)))
  refine an (bk ?_)
  refine SW_loop (fun m s => ∃ v1 : Int, ∃ v5 : Int, s.t 0 = .v false [.dat (.sl (List.map M.Server.en p0))] ∧ s.t 1 = .v false [.dat (.int .i64 v1)] ∧ s.t 5 = .v false [.dat (.int .i64 v5)] ∧ m_laws_heldServerS_L1 p0 m v1 v5 = some r) fuel ?_ ?_
  · refine ⟨p1, 0, ?_, ?_, ?_, h⟩
    all_goals simp +decide only [F, reduceIte, Nat.reduceAdd, Bool.not_true, Bool.not_false, EN, *, -h]
  rintro mL1 s1 ⟨v1, v5, f2, f3, f4, h⟩
  rcases mL1 with _ | mL1
  · exact absurd h (by simp [m_laws_heldServerS_L1])
  simp only [m_laws_heldServerS_L1] at h
  refine sq (sq (rn ?_))
  refine an ?_
  rcases bcas (decide (v5 < (List.length p0 : Int))) with b5 | b5
  · replace h := ite_f b5 h
    refine cf (xt (aft_cx (aft_ix (aft_x (an (sq (rn ?_)))))))
    refine an (rt ?_)
    cases h
    simp [Ret, TB, EN, *]
  replace h := ite_t b5 h
  refine ct (sk (an (sq (bk (sq (sq ?_))))))
  obtain ⟨x6, h7, h⟩ := bind_some h
  obtain ⟨q8, q9, q10⟩ := idx_some h7
  obtain ⟨x11, h12, h⟩ := bind_some h
  refine rd1 mixed (c_laws_markText _ _ h12) ?_
  refine an ?_
  rcases bcase (!(x6.Store.Name.toList == x11.toList)) with b13 | b13
  · replace h := ite_t b13 h
    refine ct (sq (rn ?_))
    refine an (rt ?_)
    cases h
    simp [Ret, TB, EN, *]
  replace h := ite_f b13 h
  refine cf (sk (an (sq (rn ?_))))
  refine an (sq ?_)
  obtain ⟨x14, h15, h⟩ := bind_some h
  refine rn1 (c_laws_heldItemS _ _ _ h15) ?_
  refine an (sq (sq (rn ?_)))
  refine an ?_
  rcases bcase (decide (x14 < 0)) with b16 | b16
  · replace h := ite_t b16 h
    refine ct (sq (rn ?_))
    refine an (rt ?_)
    cases h
    simp [Ret, TB, EN, *]
  replace h := ite_f b16 h
  refine cf (sk (an (sq (sq (rn ?_)))))
  refine an ?_
  rcases bcase (x6.Store.Auto != x14) with b17 | b17
  · replace h := ite_t b17 h
    refine ct (sq (rn ?_))
    refine an (rt ?_)
    cases h
    simp [Ret, TB, EN, *]
  replace h := ite_f b17 h
  refine cf (sk (an (sq (rn ?_))))
  refine an (sq ?_)
  obtain ⟨x18, h19, h⟩ := bind_some h
  refine rn1 (c_laws_heldAppliedS _ _ _ h19) ?_
  refine an (sq (sq (rn ?_)))
  refine an ?_
  rcases bcase (decide (x18 < 0)) with b20 | b20
  · replace h := ite_t b20 h
    refine ct (sq (rn ?_))
    refine an (rt ?_)
    cases h
    simp [Ret, TB, EN, *]
  replace h := ite_f b20 h
  refine cf (sk (an (sq ?_)))
  obtain ⟨x21, h22, h⟩ := bind_some h
  refine rn1 (c_laws_heldWriteS _ _ _ h22) ?_
  refine an (sq (rn ?_))
  refine an ?_
  rcases bcase (decide (x21 < 0)) with b23 | b23
  · replace h := ite_t b23 h
    refine ct (sq (rn ?_))
    refine an (rt ?_)
    cases h
    simp [Ret, TB, EN, *]
  replace h := ite_f b23 h
  refine cf (sk (ab (an (rn ?_))))
  refine aft_i ⟨mL1, by omega, x21, (IntKind.i64.wrap (v5 + 1)), ?_, ?_, ?_, h⟩
  all_goals simp +decide only [F, reduceIte, Nat.reduceAdd, Bool.not_true, Bool.not_false, EN, *, -h]

set_option maxRecDepth 20000 in
set_option maxHeartbeats 4000000 in
theorem c_laws_heldWorld (p0 : M.World) (p1 : Int) (r : Int) (h : m_laws_heldWorld p0 p1 = some r) : SCalls Tryz.prog 15 [(true, M.World.en p0), (false, [.int .i64 p1])] [(false, [.ro (.int .i64 r)])] := by
  unfold m_laws_heldWorld at h
  simp only [M.World.en]
  refine scalls_n (N := 42) (vars := [.tmp 4]) Tryz.func15 rfl rfl rfl (by decide +kernel) (Nat.le_of_ble_eq_true rfl) fun base wd => ?_
  refine sq (rn ?_)
  refine an (sq ?_)
  obtain ⟨x1, h2, h⟩ := bind_some h
  refine rn1 (c_laws_heldStorage _ _ _ h2) ?_
  refine an (sq (sq (rn ?_)))
  refine an ?_
  rcases bcase (decide (x1 < 0)) with b3 | b3
  · replace h := ite_t b3 h
    refine ct (sq (rn ?_))
    refine an (rt ?_)
    cases h
    simp [Ret, TB, EN, *]
  replace h := ite_f b3 h
  refine cf (sk (an (sq ?_)))
  obtain ⟨x4, h5, h⟩ := bind_some h
  refine rn1 (c_laws_heldPageS _ _ _ h5) ?_
  refine an (sq (sq (rn ?_)))
  refine an ?_
  rcases bcase (decide (x4 < 0)) with b6 | b6
  · replace h := ite_t b6 h
    refine ct (sq (rn ?_))
    refine an (rt ?_)
    cases h
    simp [Ret, TB, EN, *]
  replace h := ite_f b6 h
  refine cf (sk (an (sq ?_)))
  obtain ⟨x7, h8, h⟩ := bind_some h
  refine rn1 (c_laws_heldLockTable _ _ _ h8) ?_
  refine an (sq (sq (rn ?_)))
  refine an ?_
  rcases bcase (decide (x7 < 0)) with b9 | b9
  · replace h := ite_t b9 h
    refine ct (sq (rn ?_))
    refine an (rt ?_)
    cases h
    simp [Ret, TB, EN, *]
  replace h := ite_f b9 h
  refine cf (sk (an (sq ?_)))
  obtain ⟨x10, h11, h⟩ := bind_some h
  refine rn1 (c_laws_heldChannel _ _ _ h11) ?_
  refine an (sq (sq (rn ?_)))
  refine an ?_
  rcases bcase (decide (x10 < 0)) with b12 | b12
  · replace h := ite_t b12 h
    refine ct (sq (rn ?_))
    refine an (rt ?_)
    cases h
    simp [Ret, TB, EN, *]
  replace h := ite_f b12 h
  refine cf (sk (an (sq ?_)))
  obtain ⟨x13, h14, h⟩ := bind_some h
  refine rn1 (c_laws_heldSiteS _ _ _ h14) ?_
  refine an (sq (sq (rn ?_)))
  refine an ?_
  rcases bcase (decide (x13 < 0)) with b15 | b15
  · replace h := ite_t b15 h
    refine ct (sq (rn ?_))
    refine an (rt ?_)
    cases h
    simp [Ret, TB, EN, *]
  replace h := ite_f b15 h
  refine cf (sk (an (sq ?_)))
  obtain ⟨x16, h17, h⟩ := bind_some h
  refine rn1 (c_laws_heldServerS _ _ _ h17) ?_
  refine an (sq (sq (rn ?_)))
  refine an ?_
  rcases bcase (decide (x16 < 0)) with b18 | b18
  · replace h := ite_t b18 h
    refine ct (sq (rn ?_))
    refine an (rt ?_)
    cases h
    simp [Ret, TB, EN, *]
  replace h := ite_f b18 h
  refine cf (sk (an (sq (rn ?_))))
  refine an (rt ?_)
  cases h
  simp [Ret, TB, EN, *]

end Go.Proofs.YtcpahpbjjnekkaaGreat.gen
