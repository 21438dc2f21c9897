/-
  Helper text: walks: each function's contract out of its model. No conditions beyond those of each contract.
-/
import Derived.Test.YtgemmnkhddlhpaaGreatEqualWorldsTi
import Derived.Test.YtgemmnkhddlhpaaGreatEqualWorldsWsz1
namespace Go.Proofs.YtgemmnkhddlhpaaGreat.gen
open Go Go.Sh
set_option linter.unusedVariables false
set_option linter.unusedSimpArgs false
set_option maxRecDepth 20000 in
set_option maxHeartbeats 4000000 in
theorem c_laws_szServerS (p0 : List M.Server) (p1 : Int) (r : Int) (h : m_laws_szServerS p0 p1 = some r) : SCalls Tryz.prog 66 [(false, [.sl (List.map M.Server.en p0)]), (false, [.int .i64 p1])] [(false, [.ro (.int .i64 r)])] := by
  unfold m_laws_szServerS at h
  refine scalls_n (N := 27) (vars := [.tmp 4]) Tryz.func66 rfl rfl rfl (by decide +kernel) (Nat.le_of_ble_eq_true rfl) fun base wd => ?_
  refine sq (rn ?_)
  refine an (sq (rn ?_))
  refine an (sq (sq (rn ?_)))
  refine an ?_
  rcases bcase (decide ((IntKind.i64.wrap (p1 - (List.length p0 : Int))) < 0)) with b1 | b1
  · replace h := ite_t b1 h
    refine ct (sq (rn ?_))
    refine an (rt ?_)
    cases h
    simp [Ret, TB, EN, *]
  replace h := ite_f b1 h
  refine cf (sk (an (sq (sq (rn ?_)))))
  refine an (bk ?_)
  refine SW_loop (fun m s => ∃ v1 : Int, ∃ v5 : Int, s.t 0 = .v false [.dat (.sl (List.map M.Server.en p0))] ∧ s.t 1 = .v false [.dat (.int .i64 v1)] ∧ s.t 5 = .v false [.dat (.int .i64 v5)] ∧ m_laws_szServerS_L1 p0 m v1 v5 = some r) fuel ?_ ?_
  · refine ⟨(IntKind.i64.wrap (p1 - (List.length p0 : Int))), 0, ?_, ?_, ?_, h⟩
    all_goals simp +decide only [F, reduceIte, Nat.reduceAdd, Bool.not_true, Bool.not_false, EN, *, -h]
  rintro mL1 s2 ⟨v1, v5, f3, f4, f5, h⟩
  rcases mL1 with _ | mL1
  · exact absurd h (by simp [m_laws_szServerS_L1])
  simp only [m_laws_szServerS_L1] at h
  refine sq (sq (rn ?_))
  refine an ?_
  rcases bcas (decide (v5 < (List.length p0 : Int))) with b6 | b6
  · replace h := ite_f b6 h
    refine cf (xt (aft_cx (aft_ix (aft_x (an (sq (rn ?_)))))))
    refine an (rt ?_)
    cases h
    simp [Ret, TB, EN, *]
  replace h := ite_t b6 h
  refine ct (sk (an (sq (bk (sq ?_)))))
  obtain ⟨x7, h8, h⟩ := bind_some h
  obtain ⟨q9, q10, q11⟩ := idx_some h8
  obtain ⟨x12, h13, h⟩ := bind_some h
  refine rn1 (c_laws_szServer _ _ _ h13) ?_
  refine an (sq (rn ?_))
  refine an ?_
  rcases bcase (decide (x12 < 0)) with b14 | b14
  · replace h := ite_t b14 h
    refine ct (sq (rn ?_))
    refine an (rt ?_)
    cases h
    simp [Ret, TB, EN, *]
  replace h := ite_f b14 h
  refine cf (sk (ab (an (rn ?_))))
  refine aft_i ⟨mL1, by omega, x12, (IntKind.i64.wrap (v5 + 1)), ?_, ?_, ?_, h⟩
  all_goals simp +decide only [F, reduceIte, Nat.reduceAdd, Bool.not_true, Bool.not_false, EN, *, -h]

set_option maxRecDepth 20000 in
set_option maxHeartbeats 4000000 in
theorem c_laws_szWorld (p0 : M.World) (p1 : Int) (r : Int) (h : m_laws_szWorld p0 p1 = some r) : SCalls Tryz.prog 15 [(true, M.World.en p0), (false, [.int .i64 p1])] [(false, [.ro (.int .i64 r)])] := by
  unfold m_laws_szWorld at h
  simp only [M.World.en]
  refine scalls_n (N := 42) (vars := [.tmp 4]) Tryz.func15 rfl rfl rfl (by decide +kernel) (Nat.le_of_ble_eq_true rfl) fun base wd => ?_
  refine sq (rn ?_)
  refine an (sq ?_)
  obtain ⟨x1, h2, h⟩ := bind_some h
  refine rn1 (c_laws_szStorage _ _ _ h2) ?_
  refine an (sq (sq (rn ?_)))
  refine an ?_
  rcases bcase (decide (x1 < 0)) with b3 | b3
  · replace h := ite_t b3 h
    refine ct (sq (rn ?_))
    refine an (rt ?_)
    cases h
    simp [Ret, TB, EN, *]
  replace h := ite_f b3 h
  refine cf (sk (an (sq ?_)))
  obtain ⟨x4, h5, h⟩ := bind_some h
  refine rn1 (c_laws_szPageS _ _ _ h5) ?_
  refine an (sq (sq (rn ?_)))
  refine an ?_
  rcases bcase (decide (x4 < 0)) with b6 | b6
  · replace h := ite_t b6 h
    refine ct (sq (rn ?_))
    refine an (rt ?_)
    cases h
    simp [Ret, TB, EN, *]
  replace h := ite_f b6 h
  refine cf (sk (an (sq ?_)))
  obtain ⟨x7, h8, h⟩ := bind_some h
  refine rn1 (c_laws_szLockTable _ _ _ h8) ?_
  refine an (sq (sq (rn ?_)))
  refine an ?_
  rcases bcase (decide (x7 < 0)) with b9 | b9
  · replace h := ite_t b9 h
    refine ct (sq (rn ?_))
    refine an (rt ?_)
    cases h
    simp [Ret, TB, EN, *]
  replace h := ite_f b9 h
  refine cf (sk (an (sq ?_)))
  obtain ⟨x10, h11, h⟩ := bind_some h
  refine rn1 (c_laws_szChannel _ _ _ h11) ?_
  refine an (sq (sq (rn ?_)))
  refine an ?_
  rcases bcase (decide (x10 < 0)) with b12 | b12
  · replace h := ite_t b12 h
    refine ct (sq (rn ?_))
    refine an (rt ?_)
    cases h
    simp [Ret, TB, EN, *]
  replace h := ite_f b12 h
  refine cf (sk (an (sq ?_)))
  obtain ⟨x13, h14, h⟩ := bind_some h
  refine rn1 (c_laws_szSiteS _ _ _ h14) ?_
  refine an (sq (sq (rn ?_)))
  refine an ?_
  rcases bcase (decide (x13 < 0)) with b15 | b15
  · replace h := ite_t b15 h
    refine ct (sq (rn ?_))
    refine an (rt ?_)
    cases h
    simp [Ret, TB, EN, *]
  replace h := ite_f b15 h
  refine cf (sk (an (sq ?_)))
  obtain ⟨x16, h17, h⟩ := bind_some h
  refine rn1 (c_laws_szServerS _ _ _ h17) ?_
  refine an (sq (sq (rn ?_)))
  refine an ?_
  rcases bcase (decide (x16 < 0)) with b18 | b18
  · replace h := ite_t b18 h
    refine ct (sq (rn ?_))
    refine an (rt ?_)
    cases h
    simp [Ret, TB, EN, *]
  replace h := ite_f b18 h
  refine cf (sk (an (sq (rn ?_))))
  refine an (rt ?_)
  cases h
  simp [Ret, TB, EN, *]

end Go.Proofs.YtgemmnkhddlhpaaGreat.gen
