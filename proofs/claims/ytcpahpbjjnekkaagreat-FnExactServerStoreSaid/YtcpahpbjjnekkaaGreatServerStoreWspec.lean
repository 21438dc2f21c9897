/-
  Helper text: walks: each function's contract out of its model. No conditions beyond those of each contract.
-/
import Derived.Test.YtcpahpbjjnekkaaGreatServerStoreTi
namespace Go.Proofs.YtcpahpbjjnekkaaGreat.gen
open Go Go.Sh
set_option linter.unusedVariables false
set_option linter.unusedSimpArgs false
set_option maxRecDepth 20000 in
set_option maxHeartbeats 4000000 in
theorem c_spec_l29Names  (r : (List ByteArray)) (h : m_spec_l29Names = some r) : SCalls Tryz.prog 48 [] [(false, [.own 9 1 (List.map enS r)])] := by
  unfold m_spec_l29Names at h
  refine scalls_n (N := 2) (vars := [.tmp 0]) Tryz.func48 rfl rfl rfl (by decide +kernel) (Nat.le_of_ble_eq_true rfl) fun base wd => ?_
  refine sq (rn ?_)
  refine an (sq (rn ?_))
  refine an (rt ?_)
  cases h
  simp [Ret, TB, EN, *]

set_option maxRecDepth 20000 in
set_option maxHeartbeats 4000000 in
theorem c_spec_SiteNumber (p0 : ByteArray) (r : Int) (h : m_spec_SiteNumber p0 = some r) : SCalls Tryz.prog 100 [(false, [.str p0])] [(false, [.ro (.int .i64 r)])] := by
  unfold m_spec_SiteNumber at h
  refine scalls_n (N := 19) (vars := [.tmp 2]) Tryz.func100 rfl rfl rfl (by decide +kernel) (Nat.le_of_ble_eq_true rfl) fun base wd => ?_
  refine sq (rn ?_)
  refine an (sq ?_)
  obtain ⟨x1, h2, h⟩ := bind_some h
  refine rn1 (c_spec_l29Names _ h2) ?_
  refine an (sq (sq (rn ?_)))
  refine an (bk ?_)
  refine SW_loop (fun m s => ∃ v4 : Int, s.t 0 = .v false [.dat (.str p0)] ∧ s.t 3 = .v false [.row 100005 1] ∧ s.t 4 = .v false [.dat (.int .i64 v4)] ∧ s.h 100005 = (1, .row 9 1 (List.map enS x1) true) ∧ m_spec_SiteNumber_L1 p0 x1 m v4 = some r) fuel ?_ ?_
  · refine ⟨0, ?_, ?_, ?_, ?_, h⟩
    all_goals simp +decide only [F, reduceIte, Nat.reduceAdd, Bool.not_true, Bool.not_false, EN, *, -h]
  rintro mL1 s3 ⟨v4, f4, f5, f6, f7, h⟩
  rcases mL1 with _ | mL1
  · exact absurd h (by simp [m_spec_SiteNumber_L1])
  simp only [m_spec_SiteNumber_L1] at h
  refine sq (sq (rn ?_))
  refine an ?_
  rcases bcas (decide (v4 < (List.length x1 : Int))) with b8 | b8
  · replace h := ite_f b8 h
    refine cf (xt (aft_cx (aft_ix (aft_x (an (sq (rn ?_)))))))
    refine an (rt ?_)
    cases h
    simp [Ret, TB, EN, *]
  replace h := ite_t b8 h
  refine ct (sk (an (sq (bk (sq ?_)))))
  obtain ⟨x9, h10, h⟩ := bind_some h
  obtain ⟨q11, q12, q13⟩ := idx_some h10
  refine rn ?_
  refine an ?_
  rcases bcase (x9.toList == p0.toList) with b14 | b14
  · replace h := ite_t b14 h
    refine ct (sq (rn ?_))
    refine an (rt ?_)
    cases h
    simp [Ret, TB, EN, *]
  replace h := ite_f b14 h
  refine cf (sk (ab (an (rn ?_))))
  refine aft_i ⟨mL1, by omega, (IntKind.i64.wrap (v4 + 1)), ?_, ?_, ?_, ?_, h⟩
  all_goals simp +decide only [F, reduceIte, Nat.reduceAdd, Bool.not_true, Bool.not_false, EN, *, -h]

set_option maxRecDepth 20000 in
set_option maxHeartbeats 4000000 in
theorem c_spec_l1In (p0 : Int) (p1 : Int) (p2 : Int) (r : Bool) (h : m_spec_l1In p0 p1 p2 = some r) : SCalls Tryz.prog 47 [(false, [.int .i64 p0]), (false, [.int .i64 p1]), (false, [.int .i64 p2])] [(false, [.ro (.bool r)])] := by
  unfold m_spec_l1In at h
  refine scalls_n (N := 15) (vars := [.tmp 6]) Tryz.func47 rfl rfl rfl (by decide +kernel) (Nat.le_of_ble_eq_true rfl) fun base wd => ?_
  refine sq (rn ?_)
  refine an (sq ?_)
  rcases bcase (decide (p0 ≥ p1)) with b1 | b1
  · replace h := ite_t b1 h
    refine rn ?_
    refine an (rt ?_)
    cases h
    simp [Ret, TB, EN, *]
  replace h := ite_f b1 h
  refine rn ?_
  refine an (rt ?_)
  cases h
  simp [Ret, TB, EN, *]

set_option maxRecDepth 20000 in
set_option maxHeartbeats 4000000 in
theorem c_spec_l5Copy (p0 : M.Record) (r : M.Record) (h : m_spec_l5Copy p0 = some r) : SCalls Tryz.prog 247 [(true, M.Record.en p0)] [(true, [.own 309 2 (List.map M.Field.en r.Fields)])] := by
  unfold m_spec_l5Copy at h
  simp only [M.Record.en]
  refine scalls_n (N := 8) (vars := [.cell 2 238]) Tryz.func247 rfl rfl rfl (by decide +kernel) (Nat.le_of_ble_eq_true rfl) fun base wd => ?_
  refine sq (rn ?_)
  refine an (sq ?_)
  obtain ⟨x1, h2, h⟩ := bind_some h
  refine rn1 h2 ?_
  refine an (rt ?_)
  cases h
  simp [Ret, TB, EN, *]

set_option maxRecDepth 20000 in
set_option maxHeartbeats 4000000 in
theorem c_spec_l6Item (p0 : M.Item) (r : M.Item) (h : m_spec_l6Item p0 = some r) : SCalls Tryz.prog 178 [(true, M.Item.en p0)] [(true, [.ro (.int .i64 r.Key.Kind), .ro (.int .i64 r.Key.N), .ro (.str r.Key.Text), .own 309 2 (List.map M.Field.en r.Record.Fields)])] := by
  unfold m_spec_l6Item at h
  simp only [M.Item.en]
  refine scalls_n (N := 9) (vars := [.cell 2 240]) Tryz.func178 rfl rfl rfl (by decide +kernel) (Nat.le_of_ble_eq_true rfl) fun base wd => ?_
  refine sq (rn ?_)
  refine an (sq ?_)
  obtain ⟨x1, h2, h⟩ := bind_some h
  refine rd1 mixed (c_spec_l5Copy _ _ h2) ?_
  refine an (rt ?_)
  cases h
  simp [Ret, TB, EN, *]

set_option maxRecDepth 20000 in
set_option maxHeartbeats 4000000 in
theorem c_spec_l6Copy (p0 : M.Store) (r : M.Store) (h : m_spec_l6Copy p0 = some r) : SCalls Tryz.prog 101 [(true, M.Store.en p0)] [(true, [.ro (.str r.Name), .own 240 4 (List.map M.Item.en r.Items), .ro (.int .i64 r.Auto)])] := by
  unfold m_spec_l6Copy at h
  simp only [M.Store.en]
  refine scalls_n (N := 29) (vars := [.cell 2 81]) Tryz.func101 rfl rfl rfl (by decide +kernel) (Nat.le_of_ble_eq_true rfl) fun base wd => ?_
  refine sq (rn ?_)
  refine an (sq (rn ?_))
  refine an (sq (sq (rn ?_)))
  refine an (bk ?_)
  refine SW_gho ((Gho.own_b (b := 3) (c := 1) (K := 7030000) 240 4 (by simp +decide only [F, reduceIte, Nat.reduceAdd, Bool.not_true, Bool.not_false, EN, *, -h]; rfl) rfl (by decide))) ?_
  refine SW_loopG (fun m s => ∃ v4 : Int, ∃ r30000 : List M.Item, ∃ u30000 : Nat, s.t 1 = .v false [.bp 1 1 0] ∧ s.t 2 = .v false [.bp 2 1 0] ∧ s.t 3 = .v false [.bp 3 1 0] ∧ s.t 4 = .v false [.dat (.int .i64 v4)] ∧ s.h 1 = (1, .box 81 [.dat (.str p0.Name), .dat (.sl (List.map M.Item.en p0.Items)), .dat (.int .i64 p0.Auto)]) ∧ s.h 2 = (1, .box 81 [.dat (.str (⟨#[]⟩ : ByteArray)), .nil, .dat (.int .i64 0)]) ∧ s.h 3 = (1, .box 81 [.dat (.str p0.Name), .row 7030000 u30000, .dat (.int .i64 p0.Auto)]) ∧ s.h 7030000 = (u30000, .row 240 4 (List.map M.Item.en r30000) true) ∧ m_spec_l6Copy_L1 p0 m v4 r30000 = some r) fuel ?_ ?_
  · refine ⟨0, ([] : List M.Item), 1, ?_, ?_, ?_, ?_, ?_, ?_, ?_, ?_, h⟩
    all_goals simp +decide only [F, reduceIte, Nat.reduceAdd, Bool.not_true, Bool.not_false, EN, *, -h]
  rintro mL1 s1 ⟨v4, r30000, u30000, f2, f3, f4, f5, f6, f7, f8, f9, h⟩
  rcases mL1 with _ | mL1
  · exact absurd h (by simp [m_spec_l6Copy_L1])
  simp only [m_spec_l6Copy_L1] at h
  refine sq (sq (rn ?_))
  refine an ?_
  rcases bcas (decide (v4 < (List.length p0.Items : Int))) with b10 | b10
  · replace h := ite_f b10 h
    refine cf (xt (aft_cx (aft_ix (aft_x (an (sq (rn ?_)))))))
    refine an (rt ?_)
    cases h
    simp [Ret, TB, EN, *]
  replace h := ite_t b10 h
  refine ct (sk (an (sq (bk ?_))))
  obtain ⟨x11, h12, h⟩ := bind_some h
  obtain ⟨q13, q14, q15⟩ := idx_some h12
  obtain ⟨x16, h17, h⟩ := bind_some h
  obtain ⟨x18, h19, h⟩ := bind_some h
  refine rd2 mixed (c_spec_l6Item _ _ h17) h19 ?_
  refine ab (an ?_)
  refine cu (fun s => s.t 1 = .v false [.bp 1 1 0] ∧ s.t 2 = .v false [.bp 2 1 0] ∧ s.t 3 = .v false [.bp 3 1 0] ∧ s.t 4 = .v false [.dat (.int .i64 v4)] ∧ s.h 1 = (1, .box 81 [.dat (.str p0.Name), .dat (.sl (List.map M.Item.en p0.Items)), .dat (.int .i64 p0.Auto)]) ∧ s.h 2 = (1, .box 81 [.dat (.str (⟨#[]⟩ : ByteArray)), .nil, .dat (.int .i64 0)]) ∧ s.h 3 = (1, .box 81 [.dat (.str p0.Name), .row 7030000 (u30000 + 1), .dat (.int .i64 p0.Auto)]) ∧ s.h 7030000 = ((u30000 + 1), .row 240 4 (List.map M.Item.en (r30000 ++ [x16])) true) ∧ True) ?_
  rintro s20 ⟨f21, f22, f23, f24, f25, f26, f27, f28, _⟩
  refine rn ?_
  refine aft_i ⟨_, (Gho.ren_b (b := 3) (c := 1) (K := 7030000) (j := 7030000) (by simp +decide only [F, reduceIte, Nat.reduceAdd, Bool.not_true, Bool.not_false, EN, *, -h]; rfl) rfl (by simp +decide only [F, reduceIte, Nat.reduceAdd, Bool.not_true, Bool.not_false, EN, *, -h]; rfl) (by decide)), mL1, by omega, (IntKind.i64.wrap (v4 + 1)), (r30000 ++ [x16]), ((u30000 + 1) + 1), ?_, ?_, ?_, ?_, ?_, ?_, ?_, ?_, h⟩
  all_goals simp +decide only [F, reduceIte, Nat.reduceAdd, Bool.not_true, Bool.not_false, EN, *, -h]

set_option maxRecDepth 20000 in
set_option maxHeartbeats 4000000 in
theorem c_spec_ServerStore (p0 : M.World) (p1 : ByteArray) (r : M.Store) (h : m_spec_ServerStore p0 p1 = some r) : SCalls Tryz.prog 30 [(true, M.World.en p0), (false, [.str p1])] [(true, [.ro (.str r.Name), .own 240 4 (List.map M.Item.en r.Items), .ro (.int .i64 r.Auto)])] := by
  unfold m_spec_ServerStore at h
  simp only [M.World.en]
  refine scalls_n (N := 23) (vars := [.cell 4 81]) Tryz.func30 rfl rfl rfl (by decide +kernel) (Nat.le_of_ble_eq_true rfl) fun base wd => ?_
  refine sq (rn ?_)
  refine an (sq ?_)
  obtain ⟨x1, h2, h⟩ := bind_some h
  refine rn1 (c_spec_SiteNumber _ _ h2) ?_
  refine an (sq (sq ?_))
  obtain ⟨x3, h4, h⟩ := bind_some h
  refine rn1 (c_spec_l1In _ _ _ _ h4) ?_
  refine an ?_
  rcases bcase (!x3) with b5 | b5
  · replace h := ite_t b5 h
    refine ct (sq (rn ?_))
    refine an (rt ?_)
    cases h
    simp [Ret, TB, EN, *]
  replace h := ite_f b5 h
  refine cf (sk (an (sq ?_)))
  obtain ⟨x6, h7, h⟩ := bind_some h
  obtain ⟨q8, q9, q10⟩ := idx_some h7
  obtain ⟨x11, h12, h⟩ := bind_some h
  refine rn1 (c_spec_l6Copy _ _ h12) ?_
  refine an (rt ?_)
  cases h
  simp [Ret, TB, EN, *]

end Go.Proofs.YtcpahpbjjnekkaaGreat.gen
