/-
  Helper text: walks: each function's contract out of its model. No conditions beyond those of each contract.
-/
import Derived.Test.YtcpahpbjjnekkaaGreatServerStoreTi
namespace Go.Proofs.YtcpahpbjjnekkaaGreat.gen
open Go Go.Sh
set_option linter.unusedVariables false
set_option linter.unusedSimpArgs false
set_option maxRecDepth 20000 in
set_option maxHeartbeats 4000000 in
theorem c_slices_Index_string (p0 : List ByteArray) (p1 : ByteArray) (r : Int) (h : m_slices_Index_string p0 p1 = some r) : SCalls Tryz.prog 179 [(false, [.sl (List.map enS p0)]), (false, [.str p1])] [(false, [.ro (.int .i64 r)])] := by
  unfold m_slices_Index_string at h
  refine scalls_n (N := 19) (vars := [.tmp 4]) Tryz.func179 rfl rfl rfl (by decide +kernel) (Nat.le_of_ble_eq_true rfl) fun base wd => ?_
  refine sq (rn ?_)
  refine an (sq (sq (rn ?_)))
  refine an (bk ?_)
  refine SW_loop (fun m s => ∃ v8 : Int, s.t 0 = .v false [.dat (.sl (List.map enS p0))] ∧ s.t 1 = .v false [.dat (.str p1)] ∧ s.t 7 = .v false [.dat (.int .i64 (List.length p0 : Int))] ∧ s.t 8 = .v false [.dat (.int .i64 v8)] ∧ m_slices_Index_string_L1 p0 p1 m v8 = some r) fuel ?_ ?_
  · refine ⟨0, ?_, ?_, ?_, ?_, h⟩
    all_goals simp +decide only [F, reduceIte, Nat.reduceAdd, Bool.not_true, Bool.not_false, EN, *, -h]
  rintro mL1 s1 ⟨v8, f2, f3, f4, f5, h⟩
  rcases mL1 with _ | mL1
  · exact absurd h (by simp [m_slices_Index_string_L1])
  simp only [m_slices_Index_string_L1] at h
  refine sq (rn ?_)
  refine an (sq ?_)
  rcases bcas (decide (v8 < (List.length p0 : Int))) with b6 | b6
  · replace h := ite_f b6 h
    refine cf (xt (aft_cx (aft_ix (aft_x (an (sq (rn ?_)))))))
    refine an (rt ?_)
    cases h
    simp [Ret, TB, EN, *]
  replace h := ite_t b6 h
  refine ct (sk (an (sq (bk (sq (rn ?_))))))
  refine an (sq ?_)
  obtain ⟨x7, h8, h⟩ := bind_some h
  obtain ⟨q9, q10, q11⟩ := idx_some h8
  refine rn ?_
  refine an ?_
  rcases bcase (p1.toList == x7.toList) with b12 | b12
  · replace h := ite_t b12 h
    refine ct (sq (rn ?_))
    refine an (rt ?_)
    cases h
    simp [Ret, TB, EN, *]
  replace h := ite_f b12 h
  refine cf (sk (ab (an (rn ?_))))
  refine aft_i ⟨mL1, by omega, (IntKind.i64.wrap (v8 + 1)), ?_, ?_, ?_, ?_, h⟩
  all_goals simp +decide only [F, reduceIte, Nat.reduceAdd, Bool.not_true, Bool.not_false, EN, *, -h]

set_option maxRecDepth 20000 in
set_option maxHeartbeats 4000000 in
theorem c_impl_SiteNumber (p0 : ByteArray) (r : Int) (h : m_impl_SiteNumber p0 = some r) : SCalls Tryz.prog 102 [(false, [.str p0])] [(false, [.ro (.int .i64 r)])] := by
  unfold m_impl_SiteNumber at h
  refine scalls_n (N := 6) (vars := [.tmp 2]) Tryz.func102 rfl rfl rfl (by decide +kernel) (Nat.le_of_ble_eq_true rfl) fun base wd => ?_
  refine sq (rn ?_)
  refine an (sq ?_)
  obtain ⟨x1, h2, h⟩ := bind_some h
  refine rn1 (c_slices_Index_string _ _ _ h2) ?_
  refine an (rt ?_)
  cases h
  simp [Ret, TB, EN, *]

set_option maxRecDepth 20000 in
set_option maxHeartbeats 4000000 in
theorem c_impl_copyRecord (p0 : M.Record) (r : M.Record) (h : m_impl_copyRecord p0 = some r) : SCalls Tryz.prog 248 [(true, M.Record.en p0)] [(true, [.own 309 2 (List.map M.Field.en r.Fields)])] := by
  unfold m_impl_copyRecord at h
  simp only [M.Record.en]
  refine scalls_n (N := 8) (vars := [.cell 2 238]) Tryz.func248 rfl rfl rfl (by decide +kernel) (Nat.le_of_ble_eq_true rfl) fun base wd => ?_
  refine sq (rn ?_)
  refine an (sq ?_)
  obtain ⟨x1, h2, h⟩ := bind_some h
  refine rn1 h2 ?_
  refine an (rt ?_)
  cases h
  simp [Ret, TB, EN, *]

set_option maxRecDepth 20000 in
set_option maxHeartbeats 4000000 in
theorem c_impl_copyItem (p0 : M.Item) (r : M.Item) (h : m_impl_copyItem p0 = some r) : SCalls Tryz.prog 180 [(true, M.Item.en p0)] [(true, [.ro (.int .i64 r.Key.Kind), .ro (.int .i64 r.Key.N), .ro (.str r.Key.Text), .own 309 2 (List.map M.Field.en r.Record.Fields)])] := by
  unfold m_impl_copyItem at h
  simp only [M.Item.en]
  refine scalls_n (N := 9) (vars := [.cell 2 240]) Tryz.func180 rfl rfl rfl (by decide +kernel) (Nat.le_of_ble_eq_true rfl) fun base wd => ?_
  refine sq (rn ?_)
  refine an (sq ?_)
  obtain ⟨x1, h2, h⟩ := bind_some h
  refine rd1 mixed (c_impl_copyRecord _ _ h2) ?_
  refine an (rt ?_)
  cases h
  simp [Ret, TB, EN, *]

set_option maxRecDepth 20000 in
set_option maxHeartbeats 4000000 in
theorem c_impl_copyStore (p0 : M.Store) (r : M.Store) (h : m_impl_copyStore p0 = some r) : SCalls Tryz.prog 103 [(true, M.Store.en p0)] [(true, [.ro (.str r.Name), .own 240 4 (List.map M.Item.en r.Items), .ro (.int .i64 r.Auto)])] := by
  unfold m_impl_copyStore at h
  simp only [M.Store.en]
  refine scalls_n (N := 27) (vars := [.cell 2 81]) Tryz.func103 rfl rfl rfl (by decide +kernel) (Nat.le_of_ble_eq_true rfl) fun base wd => ?_
  refine sq (rn ?_)
  refine an (sq (rn ?_))
  refine an (sq (sq (rn ?_)))
  refine an (bk ?_)
  refine SW_gho ((Gho.own_b (b := 3) (c := 1) (K := 7030000) 240 4 (by simp +decide only [F, reduceIte, Nat.reduceAdd, Bool.not_true, Bool.not_false, EN, *, -h]; rfl) rfl (by decide))) ?_
  refine SW_loopG (fun m s => ∃ v14 : Int, ∃ r30000 : List M.Item, ∃ u30000 : Nat, s.t 2 = .v false [.bp 2 1 0] ∧ s.t 3 = .v false [.bp 3 1 0] ∧ s.t 12 = .v false [.dat (.sl (List.map M.Item.en p0.Items))] ∧ s.t 13 = .v false [.dat (.int .i64 (List.length p0.Items : Int))] ∧ s.t 14 = .v false [.dat (.int .i64 v14)] ∧ s.h 2 = (1, .box 81 [.dat (.str (⟨#[]⟩ : ByteArray)), .nil, .dat (.int .i64 0)]) ∧ s.h 3 = (1, .box 81 [.dat (.str p0.Name), .row 7030000 u30000, .dat (.int .i64 p0.Auto)]) ∧ s.h 7030000 = (u30000, .row 240 4 (List.map M.Item.en r30000) true) ∧ m_impl_copyStore_L1 p0 m v14 r30000 = some r) fuel ?_ ?_
  · refine ⟨0, ([] : List M.Item), 1, ?_, ?_, ?_, ?_, ?_, ?_, ?_, ?_, h⟩
    all_goals simp +decide only [F, reduceIte, Nat.reduceAdd, Bool.not_true, Bool.not_false, EN, *, -h]
  rintro mL1 s1 ⟨v14, r30000, u30000, f2, f3, f4, f5, f6, f7, f8, f9, h⟩
  rcases mL1 with _ | mL1
  · exact absurd h (by simp [m_impl_copyStore_L1])
  simp only [m_impl_copyStore_L1] at h
  refine sq (rn ?_)
  refine an (sq ?_)
  rcases bcas (decide (v14 < (List.length p0.Items : Int))) with b10 | b10
  · replace h := ite_f b10 h
    refine cf (xt (aft_cx (aft_ix (aft_x (an (sq (rn ?_)))))))
    refine an (rt ?_)
    cases h
    simp [Ret, TB, EN, *]
  replace h := ite_t b10 h
  refine ct (sk (an (sq (bk (sq ?_)))))
  obtain ⟨x11, h12, h⟩ := bind_some h
  obtain ⟨q13, q14, q15⟩ := idx_some h12
  refine rn ?_
  refine an ?_
  obtain ⟨x16, h17, h⟩ := bind_some h
  obtain ⟨x18, h19, h⟩ := bind_some h
  refine rd2 mixed (c_impl_copyItem _ _ h17) h19 ?_
  refine ab (an ?_)
  refine cu (fun s => s.t 2 = .v false [.bp 2 1 0] ∧ s.t 3 = .v false [.bp 3 1 0] ∧ s.t 12 = .v false [.dat (.sl (List.map M.Item.en p0.Items))] ∧ s.t 13 = .v false [.dat (.int .i64 (List.length p0.Items : Int))] ∧ s.t 14 = .v false [.dat (.int .i64 v14)] ∧ s.h 2 = (1, .box 81 [.dat (.str (⟨#[]⟩ : ByteArray)), .nil, .dat (.int .i64 0)]) ∧ s.h 3 = (1, .box 81 [.dat (.str p0.Name), .row 7030000 (u30000 + 1), .dat (.int .i64 p0.Auto)]) ∧ s.h 7030000 = ((u30000 + 1), .row 240 4 (List.map M.Item.en (r30000 ++ [x16])) true) ∧ True) ?_
  rintro s20 ⟨f21, f22, f23, f24, f25, f26, f27, f28, _⟩
  refine rn ?_
  refine aft_i ⟨_, (Gho.ren_b (b := 3) (c := 1) (K := 7030000) (j := 7030000) (by simp +decide only [F, reduceIte, Nat.reduceAdd, Bool.not_true, Bool.not_false, EN, *, -h]; rfl) rfl (by simp +decide only [F, reduceIte, Nat.reduceAdd, Bool.not_true, Bool.not_false, EN, *, -h]; rfl) (by decide)), mL1, by omega, (IntKind.i64.wrap (v14 + 1)), (r30000 ++ [x16]), ((u30000 + 1) + 1), ?_, ?_, ?_, ?_, ?_, ?_, ?_, ?_, h⟩
  all_goals simp +decide only [F, reduceIte, Nat.reduceAdd, Bool.not_true, Bool.not_false, EN, *, -h]

set_option maxRecDepth 20000 in
set_option maxHeartbeats 4000000 in
theorem c_impl_ServerStore (p0 : M.World) (p1 : ByteArray) (r : M.Store) (h : m_impl_ServerStore p0 p1 = some r) : SCalls Tryz.prog 31 [(true, M.World.en p0), (false, [.str p1])] [(true, [.ro (.str r.Name), .own 240 4 (List.map M.Item.en r.Items), .ro (.int .i64 r.Auto)])] := by
  unfold m_impl_ServerStore at h
  simp only [M.World.en]
  refine scalls_n (N := 25) (vars := [.cell 4 81]) Tryz.func31 rfl rfl rfl (by decide +kernel) (Nat.le_of_ble_eq_true rfl) fun base wd => ?_
  refine sq (rn ?_)
  refine an (sq ?_)
  obtain ⟨x1, h2, h⟩ := bind_some h
  refine rn1 (c_impl_SiteNumber _ _ h2) ?_
  refine an (sq (sq ?_))
  rcases bcase (decide (x1 < 0)) with b3 | b3
  · replace h := ite_t b3 h
    refine rn ?_
    refine an (ct (sq (rn ?_)))
    refine an (rt ?_)
    cases h
    simp [Ret, TB, EN, *]
  replace h := ite_f b3 h
  refine rn ?_
  refine an ?_
  rcases bcase (decide (x1 ≥ (List.length p0.Servers : Int))) with b4 | b4
  · replace h := ite_t b4 h
    refine ct (sq (rn ?_))
    refine an (rt ?_)
    cases h
    simp [Ret, TB, EN, *]
  replace h := ite_f b4 h
  refine cf (sk (an (sq ?_)))
  obtain ⟨x5, h6, h⟩ := bind_some h
  obtain ⟨q7, q8, q9⟩ := idx_some h6
  obtain ⟨x10, h11, h⟩ := bind_some h
  refine rn1 (c_impl_copyStore _ _ h11) ?_
  refine an (rt ?_)
  cases h
  simp [Ret, TB, EN, *]

end Go.Proofs.YtcpahpbjjnekkaaGreat.gen
