/-
  Helper text: walks: each function's contract out of its model. No conditions beyond those of each contract.
-/
import Derived.Test.YtgemmnkhddlhpaaGreatEqualWorldsTi
import Derived.Test.YtgemmnkhddlhpaaGreatEqualWorldsWeq0
import Derived.Test.YtgemmnkhddlhpaaGreatEqualWorldsWeq1
namespace Go.Proofs.YtgemmnkhddlhpaaGreat.gen
open Go Go.Sh
set_option linter.unusedVariables false
set_option linter.unusedSimpArgs false
set_option maxRecDepth 20000 in
set_option maxHeartbeats 4000000 in
theorem c_laws_eqMailS (p0 : List M.Mail) (p1 : List M.Mail) (r : Bool) (h : m_laws_eqMailS p0 p1 = some r) : SCalls Tryz.prog 185 [(false, [.sl (List.map M.Mail.en p0)]), (false, [.sl (List.map M.Mail.en p1)])] [(false, [.ro (.bool r)])] := by
  unfold m_laws_eqMailS at h
  refine scalls_n (N := 27) (vars := [.tmp 4]) Tryz.func185 rfl rfl rfl (by decide +kernel) (Nat.le_of_ble_eq_true rfl) fun base wd => ?_
  refine sq (rn ?_)
  refine an (sq (sq (rn ?_)))
  refine an ?_
  rcases bcase ((List.length p0 : Int) != (List.length p1 : Int)) with b1 | b1
  · replace h := ite_t b1 h
    refine ct (sq (rn ?_))
    refine an (rt ?_)
    cases h
    simp [Ret, TB, EN, *]
  replace h := ite_f b1 h
  refine cf (sk (an (sq (sq (rn ?_)))))
  refine an (bk ?_)
  refine SW_loop (fun m s => ∃ v5 : Int, s.t 0 = .v false [.dat (.sl (List.map M.Mail.en p0))] ∧ s.t 1 = .v false [.dat (.sl (List.map M.Mail.en p1))] ∧ s.t 5 = .v false [.dat (.int .i64 v5)] ∧ m_laws_eqMailS_L1 p0 p1 m v5 = some r) fuel ?_ ?_
  · refine ⟨0, ?_, ?_, ?_, h⟩
    all_goals simp +decide only [F, reduceIte, Nat.reduceAdd, Bool.not_true, Bool.not_false, EN, *, -h]
  rintro mL1 s2 ⟨v5, f3, f4, f5, h⟩
  rcases mL1 with _ | mL1
  · exact absurd h (by simp [m_laws_eqMailS_L1])
  simp only [m_laws_eqMailS_L1] at h
  refine sq (sq (rn ?_))
  refine an ?_
  rcases bcas (decide (v5 < (List.length p0 : Int))) with b6 | b6
  · replace h := ite_f b6 h
    refine cf (xt (aft_cx (aft_ix (aft_x (an (sq (rn ?_)))))))
    refine an (rt ?_)
    cases h
    simp [Ret, TB, EN, *]
  replace h := ite_t b6 h
  refine ct (sk (an (sq (bk (sq ?_)))))
  obtain ⟨x7, h8, h⟩ := bind_some h
  obtain ⟨q9, q10, q11⟩ := idx_some h8
  obtain ⟨x12, h13, h⟩ := bind_some h
  obtain ⟨q14, q15, q16⟩ := idx_some h13
  obtain ⟨x17, h18, h⟩ := bind_some h
  refine rd1 mixed (c_laws_eqMail _ _ _ h18) ?_
  refine an ?_
  rcases bcase (!x17) with b19 | b19
  · replace h := ite_t b19 h
    refine ct (sq (rn ?_))
    refine an (rt ?_)
    cases h
    simp [Ret, TB, EN, *]
  replace h := ite_f b19 h
  refine cf (sk (ab (an (rn ?_))))
  refine aft_i ⟨mL1, by omega, (IntKind.i64.wrap (v5 + 1)), ?_, ?_, ?_, h⟩
  all_goals simp +decide only [F, reduceIte, Nat.reduceAdd, Bool.not_true, Bool.not_false, EN, *, -h]

set_option maxRecDepth 20000 in
set_option maxHeartbeats 4000000 in
theorem c_laws_eqChannel (p0 : M.Channel) (p1 : M.Channel) (r : Bool) (h : m_laws_eqChannel p0 p1 = some r) : SCalls Tryz.prog 87 [(true, M.Channel.en p0), (true, M.Channel.en p1)] [(false, [.ro (.bool r)])] := by
  unfold m_laws_eqChannel at h
  simp only [M.Channel.en]
  refine scalls_n (N := 11) (vars := [.tmp 4]) Tryz.func87 rfl rfl rfl (by decide +kernel) (Nat.le_of_ble_eq_true rfl) fun base wd => ?_
  refine sq (rn ?_)
  refine an (sq (sq ?_))
  obtain ⟨x1, h2, h⟩ := bind_some h
  refine rn1 (c_laws_eqMailS _ _ _ h2) ?_
  refine an ?_
  rcases bcase (!x1) with b3 | b3
  · replace h := ite_t b3 h
    refine ct (sq (rn ?_))
    refine an (rt ?_)
    cases h
    simp [Ret, TB, EN, *]
  replace h := ite_f b3 h
  refine cf (sk (an (sq (rn ?_))))
  refine an (rt ?_)
  cases h
  simp [Ret, TB, EN, *]

set_option maxRecDepth 20000 in
set_option maxHeartbeats 4000000 in
theorem c_laws_eqStringS (p0 : List ByteArray) (p1 : List ByteArray) (r : Bool) (h : m_laws_eqStringS p0 p1 = some r) : SCalls Tryz.prog 289 [(false, [.sl (List.map enS p0)]), (false, [.sl (List.map enS p1)])] [(false, [.ro (.bool r)])] := by
  unfold m_laws_eqStringS at h
  refine scalls_n (N := 26) (vars := [.tmp 4]) Tryz.func289 rfl rfl rfl (by decide +kernel) (Nat.le_of_ble_eq_true rfl) fun base wd => ?_
  refine sq (rn ?_)
  refine an (sq (sq (rn ?_)))
  refine an ?_
  rcases bcase ((List.length p0 : Int) != (List.length p1 : Int)) with b1 | b1
  · replace h := ite_t b1 h
    refine ct (sq (rn ?_))
    refine an (rt ?_)
    cases h
    simp [Ret, TB, EN, *]
  replace h := ite_f b1 h
  refine cf (sk (an (sq (sq (rn ?_)))))
  refine an (bk ?_)
  refine SW_loop (fun m s => ∃ v5 : Int, s.t 0 = .v false [.dat (.sl (List.map enS p0))] ∧ s.t 1 = .v false [.dat (.sl (List.map enS p1))] ∧ s.t 5 = .v false [.dat (.int .i64 v5)] ∧ m_laws_eqStringS_L1 p0 p1 m v5 = some r) fuel ?_ ?_
  · refine ⟨0, ?_, ?_, ?_, h⟩
    all_goals simp +decide only [F, reduceIte, Nat.reduceAdd, Bool.not_true, Bool.not_false, EN, *, -h]
  rintro mL1 s2 ⟨v5, f3, f4, f5, h⟩
  rcases mL1 with _ | mL1
  · exact absurd h (by simp [m_laws_eqStringS_L1])
  simp only [m_laws_eqStringS_L1] at h
  refine sq (sq (rn ?_))
  refine an ?_
  rcases bcas (decide (v5 < (List.length p0 : Int))) with b6 | b6
  · replace h := ite_f b6 h
    refine cf (xt (aft_cx (aft_ix (aft_x (an (sq (rn ?_)))))))
    refine an (rt ?_)
    cases h
    simp [Ret, TB, EN, *]
  replace h := ite_t b6 h
  refine ct (sk (an (sq (bk (sq ?_)))))
  obtain ⟨x7, h8, h⟩ := bind_some h
  obtain ⟨q9, q10, q11⟩ := idx_some h8
  obtain ⟨x12, h13, h⟩ := bind_some h
  obtain ⟨q14, q15, q16⟩ := idx_some h13
  refine rd mixed ?_
  refine an ?_
  rcases bcase (!(x7.toList == x12.toList)) with b17 | b17
  · replace h := ite_t b17 h
    refine ct (sq (rn ?_))
    refine an (rt ?_)
    cases h
    simp [Ret, TB, EN, *]
  replace h := ite_f b17 h
  refine cf (sk (ab (an (rn ?_))))
  refine aft_i ⟨mL1, by omega, (IntKind.i64.wrap (v5 + 1)), ?_, ?_, ?_, h⟩
  all_goals simp +decide only [F, reduceIte, Nat.reduceAdd, Bool.not_true, Bool.not_false, EN, *, -h]

set_option maxRecDepth 20000 in
set_option maxHeartbeats 4000000 in
theorem c_laws_eqSite (p0 : M.Site) (p1 : M.Site) (r : Bool) (h : m_laws_eqSite p0 p1 = some r) : SCalls Tryz.prog 186 [(true, M.Site.en p0), (true, M.Site.en p1)] [(false, [.ro (.bool r)])] := by
  unfold m_laws_eqSite at h
  simp only [M.Site.en]
  refine scalls_n (N := 26) (vars := [.tmp 4]) Tryz.func186 rfl rfl rfl (by decide +kernel) (Nat.le_of_ble_eq_true rfl) fun base wd => ?_
  refine sq (rn ?_)
  refine an (sq (sq (rn ?_)))
  refine an ?_
  rcases bcase (!(p0.Name.toList == p1.Name.toList)) with b1 | b1
  · replace h := ite_t b1 h
    refine ct (sq (rn ?_))
    refine an (rt ?_)
    cases h
    simp [Ret, TB, EN, *]
  replace h := ite_f b1 h
  refine cf (sk (an (sq (sq (rn ?_)))))
  refine an ?_
  rcases bcase (p0.Version != p1.Version) with b2 | b2
  · replace h := ite_t b2 h
    refine ct (sq (rn ?_))
    refine an (rt ?_)
    cases h
    simp [Ret, TB, EN, *]
  replace h := ite_f b2 h
  refine cf (sk (an (sq (sq ?_))))
  obtain ⟨x3, h4, h⟩ := bind_some h
  refine rn1 (c_laws_eqStringS _ _ _ h4) ?_
  refine an ?_
  rcases bcase (!x3) with b5 | b5
  · replace h := ite_t b5 h
    refine ct (sq (rn ?_))
    refine an (rt ?_)
    cases h
    simp [Ret, TB, EN, *]
  replace h := ite_f b5 h
  refine cf (sk (an (sq (sq (rn ?_)))))
  refine an ?_
  rcases bcase (!(p0.Shared == p1.Shared)) with b6 | b6
  · replace h := ite_t b6 h
    refine ct (sq (rn ?_))
    refine an (rt ?_)
    cases h
    simp [Ret, TB, EN, *]
  replace h := ite_f b6 h
  refine cf (sk (an (sq (rn ?_))))
  refine an (rt ?_)
  cases h
  simp [Ret, TB, EN, *]

set_option maxRecDepth 20000 in
set_option maxHeartbeats 4000000 in
theorem c_laws_eqSiteS (p0 : List M.Site) (p1 : List M.Site) (r : Bool) (h : m_laws_eqSiteS p0 p1 = some r) : SCalls Tryz.prog 88 [(false, [.sl (List.map M.Site.en p0)]), (false, [.sl (List.map M.Site.en p1)])] [(false, [.ro (.bool r)])] := by
  unfold m_laws_eqSiteS at h
  refine scalls_n (N := 27) (vars := [.tmp 4]) Tryz.func88 rfl rfl rfl (by decide +kernel) (Nat.le_of_ble_eq_true rfl) fun base wd => ?_
  refine sq (rn ?_)
  refine an (sq (sq (rn ?_)))
  refine an ?_
  rcases bcase ((List.length p0 : Int) != (List.length p1 : Int)) with b1 | b1
  · replace h := ite_t b1 h
    refine ct (sq (rn ?_))
    refine an (rt ?_)
    cases h
    simp [Ret, TB, EN, *]
  replace h := ite_f b1 h
  refine cf (sk (an (sq (sq (rn ?_)))))
  refine an (bk ?_)
  refine SW_loop (fun m s => ∃ v5 : Int, s.t 0 = .v false [.dat (.sl (List.map M.Site.en p0))] ∧ s.t 1 = .v false [.dat (.sl (List.map M.Site.en p1))] ∧ s.t 5 = .v false [.dat (.int .i64 v5)] ∧ m_laws_eqSiteS_L1 p0 p1 m v5 = some r) fuel ?_ ?_
  · refine ⟨0, ?_, ?_, ?_, h⟩
    all_goals simp +decide only [F, reduceIte, Nat.reduceAdd, Bool.not_true, Bool.not_false, EN, *, -h]
  rintro mL1 s2 ⟨v5, f3, f4, f5, h⟩
  rcases mL1 with _ | mL1
  · exact absurd h (by simp [m_laws_eqSiteS_L1])
  simp only [m_laws_eqSiteS_L1] at h
  refine sq (sq (rn ?_))
  refine an ?_
  rcases bcas (decide (v5 < (List.length p0 : Int))) with b6 | b6
  · replace h := ite_f b6 h
    refine cf (xt (aft_cx (aft_ix (aft_x (an (sq (rn ?_)))))))
    refine an (rt ?_)
    cases h
    simp [Ret, TB, EN, *]
  replace h := ite_t b6 h
  refine ct (sk (an (sq (bk (sq ?_)))))
  obtain ⟨x7, h8, h⟩ := bind_some h
  obtain ⟨q9, q10, q11⟩ := idx_some h8
  obtain ⟨x12, h13, h⟩ := bind_some h
  obtain ⟨q14, q15, q16⟩ := idx_some h13
  obtain ⟨x17, h18, h⟩ := bind_some h
  refine rd1 mixed (c_laws_eqSite _ _ _ h18) ?_
  refine an ?_
  rcases bcase (!x17) with b19 | b19
  · replace h := ite_t b19 h
    refine ct (sq (rn ?_))
    refine an (rt ?_)
    cases h
    simp [Ret, TB, EN, *]
  replace h := ite_f b19 h
  refine cf (sk (ab (an (rn ?_))))
  refine aft_i ⟨mL1, by omega, (IntKind.i64.wrap (v5 + 1)), ?_, ?_, ?_, h⟩
  all_goals simp +decide only [F, reduceIte, Nat.reduceAdd, Bool.not_true, Bool.not_false, EN, *, -h]

set_option maxRecDepth 20000 in
set_option maxHeartbeats 4000000 in
theorem c_laws_eqApplied (p0 : M.Applied) (p1 : M.Applied) (r : Bool) (h : m_laws_eqApplied p0 p1 = some r) : SCalls Tryz.prog 364 [(true, M.Applied.en p0), (true, M.Applied.en p1)] [(false, [.ro (.bool r)])] := by
  unfold m_laws_eqApplied at h
  simp only [M.Applied.en]
  refine scalls_n (N := 15) (vars := [.tmp 4]) Tryz.func364 rfl rfl rfl (by decide +kernel) (Nat.le_of_ble_eq_true rfl) fun base wd => ?_
  refine sq (rn ?_)
  refine an (sq (sq (rn ?_)))
  refine an ?_
  rcases bcase (p0.Device != p1.Device) with b1 | b1
  · replace h := ite_t b1 h
    refine ct (sq (rn ?_))
    refine an (rt ?_)
    cases h
    simp [Ret, TB, EN, *]
  replace h := ite_f b1 h
  refine cf (sk (an (sq (sq (rn ?_)))))
  refine an ?_
  rcases bcase (p0.Seq != p1.Seq) with b2 | b2
  · replace h := ite_t b2 h
    refine ct (sq (rn ?_))
    refine an (rt ?_)
    cases h
    simp [Ret, TB, EN, *]
  replace h := ite_f b2 h
  refine cf (sk (an (sq (rn ?_))))
  refine an (rt ?_)
  cases h
  simp [Ret, TB, EN, *]

set_option maxRecDepth 20000 in
set_option maxHeartbeats 4000000 in
theorem c_laws_eqAppliedS (p0 : List M.Applied) (p1 : List M.Applied) (r : Bool) (h : m_laws_eqAppliedS p0 p1 = some r) : SCalls Tryz.prog 290 [(false, [.sl (List.map M.Applied.en p0)]), (false, [.sl (List.map M.Applied.en p1)])] [(false, [.ro (.bool r)])] := by
  unfold m_laws_eqAppliedS at h
  refine scalls_n (N := 27) (vars := [.tmp 4]) Tryz.func290 rfl rfl rfl (by decide +kernel) (Nat.le_of_ble_eq_true rfl) fun base wd => ?_
  refine sq (rn ?_)
  refine an (sq (sq (rn ?_)))
  refine an ?_
  rcases bcase ((List.length p0 : Int) != (List.length p1 : Int)) with b1 | b1
  · replace h := ite_t b1 h
    refine ct (sq (rn ?_))
    refine an (rt ?_)
    cases h
    simp [Ret, TB, EN, *]
  replace h := ite_f b1 h
  refine cf (sk (an (sq (sq (rn ?_)))))
  refine an (bk ?_)
  refine SW_loop (fun m s => ∃ v5 : Int, s.t 0 = .v false [.dat (.sl (List.map M.Applied.en p0))] ∧ s.t 1 = .v false [.dat (.sl (List.map M.Applied.en p1))] ∧ s.t 5 = .v false [.dat (.int .i64 v5)] ∧ m_laws_eqAppliedS_L1 p0 p1 m v5 = some r) fuel ?_ ?_
  · refine ⟨0, ?_, ?_, ?_, h⟩
    all_goals simp +decide only [F, reduceIte, Nat.reduceAdd, Bool.not_true, Bool.not_false, EN, *, -h]
  rintro mL1 s2 ⟨v5, f3, f4, f5, h⟩
  rcases mL1 with _ | mL1
  · exact absurd h (by simp [m_laws_eqAppliedS_L1])
  simp only [m_laws_eqAppliedS_L1] at h
  refine sq (sq (rn ?_))
  refine an ?_
  rcases bcas (decide (v5 < (List.length p0 : Int))) with b6 | b6
  · replace h := ite_f b6 h
    refine cf (xt (aft_cx (aft_ix (aft_x (an (sq (rn ?_)))))))
    refine an (rt ?_)
    cases h
    simp [Ret, TB, EN, *]
  replace h := ite_t b6 h
  refine ct (sk (an (sq (bk (sq ?_)))))
  obtain ⟨x7, h8, h⟩ := bind_some h
  obtain ⟨q9, q10, q11⟩ := idx_some h8
  obtain ⟨x12, h13, h⟩ := bind_some h
  obtain ⟨q14, q15, q16⟩ := idx_some h13
  obtain ⟨x17, h18, h⟩ := bind_some h
  refine rd1 mixed (c_laws_eqApplied _ _ _ h18) ?_
  refine an ?_
  rcases bcase (!x17) with b19 | b19
  · replace h := ite_t b19 h
    refine ct (sq (rn ?_))
    refine an (rt ?_)
    cases h
    simp [Ret, TB, EN, *]
  replace h := ite_f b19 h
  refine cf (sk (ab (an (rn ?_))))
  refine aft_i ⟨mL1, by omega, (IntKind.i64.wrap (v5 + 1)), ?_, ?_, ?_, h⟩
  all_goals simp +decide only [F, reduceIte, Nat.reduceAdd, Bool.not_true, Bool.not_false, EN, *, -h]

set_option maxRecDepth 20000 in
set_option maxHeartbeats 4000000 in
theorem c_laws_eqServer (p0 : M.Server) (p1 : M.Server) (r : Bool) (h : m_laws_eqServer p0 p1 = some r) : SCalls Tryz.prog 187 [(true, M.Server.en p0), (true, M.Server.en p1)] [(false, [.ro (.bool r)])] := by
  unfold m_laws_eqServer at h
  simp only [M.Server.en]
  refine scalls_n (N := 23) (vars := [.tmp 4]) Tryz.func187 rfl rfl rfl (by decide +kernel) (Nat.le_of_ble_eq_true rfl) fun base wd => ?_
  refine sq (rn ?_)
  refine an (sq (sq ?_))
  obtain ⟨x1, h2, h⟩ := bind_some h
  refine rn1 (c_laws_eqStore _ _ _ h2) ?_
  refine an ?_
  rcases bcase (!x1) with b3 | b3
  · replace h := ite_t b3 h
    refine ct (sq (rn ?_))
    refine an (rt ?_)
    cases h
    simp [Ret, TB, EN, *]
  replace h := ite_f b3 h
  refine cf (sk (an (sq (sq ?_))))
  obtain ⟨x4, h5, h⟩ := bind_some h
  refine rn1 (c_laws_eqAppliedS _ _ _ h5) ?_
  refine an ?_
  rcases bcase (!x4) with b6 | b6
  · replace h := ite_t b6 h
    refine ct (sq (rn ?_))
    refine an (rt ?_)
    cases h
    simp [Ret, TB, EN, *]
  replace h := ite_f b6 h
  refine cf (sk (an (sq (sq ?_))))
  obtain ⟨x7, h8, h⟩ := bind_some h
  refine rn1 (c_laws_eqWriteS _ _ _ h8) ?_
  refine an ?_
  rcases bcase (!x7) with b9 | b9
  · replace h := ite_t b9 h
    refine ct (sq (rn ?_))
    refine an (rt ?_)
    cases h
    simp [Ret, TB, EN, *]
  replace h := ite_f b9 h
  refine cf (sk (an (sq (rn ?_))))
  refine an (rt ?_)
  cases h
  simp [Ret, TB, EN, *]

set_option maxRecDepth 20000 in
set_option maxHeartbeats 4000000 in
theorem c_laws_eqServerS (p0 : List M.Server) (p1 : List M.Server) (r : Bool) (h : m_laws_eqServerS p0 p1 = some r) : SCalls Tryz.prog 89 [(false, [.sl (List.map M.Server.en p0)]), (false, [.sl (List.map M.Server.en p1)])] [(false, [.ro (.bool r)])] := by
  unfold m_laws_eqServerS at h
  refine scalls_n (N := 27) (vars := [.tmp 4]) Tryz.func89 rfl rfl rfl (by decide +kernel) (Nat.le_of_ble_eq_true rfl) fun base wd => ?_
  refine sq (rn ?_)
  refine an (sq (sq (rn ?_)))
  refine an ?_
  rcases bcase ((List.length p0 : Int) != (List.length p1 : Int)) with b1 | b1
  · replace h := ite_t b1 h
    refine ct (sq (rn ?_))
    refine an (rt ?_)
    cases h
    simp [Ret, TB, EN, *]
  replace h := ite_f b1 h
  refine cf (sk (an (sq (sq (rn ?_)))))
  refine an (bk ?_)
  refine SW_loop (fun m s => ∃ v5 : Int, s.t 0 = .v false [.dat (.sl (List.map M.Server.en p0))] ∧ s.t 1 = .v false [.dat (.sl (List.map M.Server.en p1))] ∧ s.t 5 = .v false [.dat (.int .i64 v5)] ∧ m_laws_eqServerS_L1 p0 p1 m v5 = some r) fuel ?_ ?_
  · refine ⟨0, ?_, ?_, ?_, h⟩
    all_goals simp +decide only [F, reduceIte, Nat.reduceAdd, Bool.not_true, Bool.not_false, EN, *, -h]
  rintro mL1 s2 ⟨v5, f3, f4, f5, h⟩
  rcases mL1 with _ | mL1
  · exact absurd h (by simp [m_laws_eqServerS_L1])
  simp only [m_laws_eqServerS_L1] at h
  refine sq (sq (rn ?_))
  refine an ?_
  rcases bcas (decide (v5 < (List.length p0 : Int))) with b6 | b6
  · replace h := ite_f b6 h
    refine cf (xt (aft_cx (aft_ix (aft_x (an (sq (rn ?_)))))))
    refine an (rt ?_)
    cases h
    simp [Ret, TB, EN, *]
  replace h := ite_t b6 h
  refine ct (sk (an (sq (bk (sq ?_)))))
  obtain ⟨x7, h8, h⟩ := bind_some h
  obtain ⟨q9, q10, q11⟩ := idx_some h8
  obtain ⟨x12, h13, h⟩ := bind_some h
  obtain ⟨q14, q15, q16⟩ := idx_some h13
  obtain ⟨x17, h18, h⟩ := bind_some h
  refine rd1 mixed (c_laws_eqServer _ _ _ h18) ?_
  refine an ?_
  rcases bcase (!x17) with b19 | b19
  · replace h := ite_t b19 h
    refine ct (sq (rn ?_))
    refine an (rt ?_)
    cases h
    simp [Ret, TB, EN, *]
  replace h := ite_f b19 h
  refine cf (sk (ab (an (rn ?_))))
  refine aft_i ⟨mL1, by omega, (IntKind.i64.wrap (v5 + 1)), ?_, ?_, ?_, h⟩
  all_goals simp +decide only [F, reduceIte, Nat.reduceAdd, Bool.not_true, Bool.not_false, EN, *, -h]

set_option maxRecDepth 20000 in
set_option maxHeartbeats 4000000 in
theorem c_laws_eqWorld (p0 : M.World) (p1 : M.World) (r : Bool) (h : m_laws_eqWorld p0 p1 = some r) : SCalls Tryz.prog 19 [(true, M.World.en p0), (true, M.World.en p1)] [(false, [.ro (.bool r)])] := by
  unfold m_laws_eqWorld at h
  simp only [M.World.en]
  refine scalls_n (N := 61) (vars := [.tmp 4]) Tryz.func19 rfl rfl rfl (by decide +kernel) (Nat.le_of_ble_eq_true rfl) fun base wd => ?_
  refine sq (rn ?_)
  refine an (sq (sq (rn ?_)))
  refine an ?_
  rcases bcase (p0.Now != p1.Now) with b1 | b1
  · replace h := ite_t b1 h
    refine ct (sq (rn ?_))
    refine an (rt ?_)
    cases h
    simp [Ret, TB, EN, *]
  replace h := ite_f b1 h
  refine cf (sk (an (sq (sq (rn ?_)))))
  refine an ?_
  rcases bcase (!(p0.Online == p1.Online)) with b2 | b2
  · replace h := ite_t b2 h
    refine ct (sq (rn ?_))
    refine an (rt ?_)
    cases h
    simp [Ret, TB, EN, *]
  replace h := ite_f b2 h
  refine cf (sk (an (sq (sq (rn ?_)))))
  refine an ?_
  rcases bcase (p0.Device != p1.Device) with b3 | b3
  · replace h := ite_t b3 h
    refine ct (sq (rn ?_))
    refine an (rt ?_)
    cases h
    simp [Ret, TB, EN, *]
  replace h := ite_f b3 h
  refine cf (sk (an (sq (sq ?_))))
  obtain ⟨x4, h5, h⟩ := bind_some h
  refine rn1 (c_laws_eqStorage _ _ _ h5) ?_
  refine an ?_
  rcases bcase (!x4) with b6 | b6
  · replace h := ite_t b6 h
    refine ct (sq (rn ?_))
    refine an (rt ?_)
    cases h
    simp [Ret, TB, EN, *]
  replace h := ite_f b6 h
  refine cf (sk (an (sq (sq ?_))))
  obtain ⟨x7, h8, h⟩ := bind_some h
  refine rn1 (c_laws_eqPageS _ _ _ h8) ?_
  refine an ?_
  rcases bcase (!x7) with b9 | b9
  · replace h := ite_t b9 h
    refine ct (sq (rn ?_))
    refine an (rt ?_)
    cases h
    simp [Ret, TB, EN, *]
  replace h := ite_f b9 h
  refine cf (sk (an (sq (sq (rn ?_)))))
  refine an ?_
  rcases bcase (p0.NextPage != p1.NextPage) with b10 | b10
  · replace h := ite_t b10 h
    refine ct (sq (rn ?_))
    refine an (rt ?_)
    cases h
    simp [Ret, TB, EN, *]
  replace h := ite_f b10 h
  refine cf (sk (an (sq (sq ?_))))
  obtain ⟨x11, h12, h⟩ := bind_some h
  refine rn1 (c_laws_eqLockTable _ _ _ h12) ?_
  refine an ?_
  rcases bcase (!x11) with b13 | b13
  · replace h := ite_t b13 h
    refine ct (sq (rn ?_))
    refine an (rt ?_)
    cases h
    simp [Ret, TB, EN, *]
  replace h := ite_f b13 h
  refine cf (sk (an (sq (sq ?_))))
  obtain ⟨x14, h15, h⟩ := bind_some h
  refine rn1 (c_laws_eqChannel _ _ _ h15) ?_
  refine an ?_
  rcases bcase (!x14) with b16 | b16
  · replace h := ite_t b16 h
    refine ct (sq (rn ?_))
    refine an (rt ?_)
    cases h
    simp [Ret, TB, EN, *]
  replace h := ite_f b16 h
  refine cf (sk (an (sq (sq ?_))))
  obtain ⟨x17, h18, h⟩ := bind_some h
  refine rn1 (c_laws_eqSiteS _ _ _ h18) ?_
  refine an ?_
  rcases bcase (!x17) with b19 | b19
  · replace h := ite_t b19 h
    refine ct (sq (rn ?_))
    refine an (rt ?_)
    cases h
    simp [Ret, TB, EN, *]
  replace h := ite_f b19 h
  refine cf (sk (an (sq (sq ?_))))
  obtain ⟨x20, h21, h⟩ := bind_some h
  refine rn1 (c_laws_eqServerS _ _ _ h21) ?_
  refine an ?_
  rcases bcase (!x20) with b22 | b22
  · replace h := ite_t b22 h
    refine ct (sq (rn ?_))
    refine an (rt ?_)
    cases h
    simp [Ret, TB, EN, *]
  replace h := ite_f b22 h
  refine cf (sk (an (sq (rn ?_))))
  refine an (rt ?_)
  cases h
  simp [Ret, TB, EN, *]

end Go.Proofs.YtgemmnkhddlhpaaGreat.gen
