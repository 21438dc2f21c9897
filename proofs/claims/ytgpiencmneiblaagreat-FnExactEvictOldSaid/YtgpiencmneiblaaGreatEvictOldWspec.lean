/-
  Helper text: walks: each function's contract out of its model. No conditions beyond those of each contract.
-/
import Derived.Test.YtgpiencmneiblaaGreatEvictOldTi
namespace Go.Proofs.YtgpiencmneiblaaGreat.gen
open Go Go.Sh
set_option linter.unusedVariables false
set_option linter.unusedSimpArgs false
set_option maxHeartbeats 4000000 in
theorem c_spec_l28Back (p0 : Int) (r : Int) (h : m_spec_l28Back p0 = some r) : SCalls Tryz.prog 83 [(false, [.int .i64 p0])] [(false, [.ro (.int .i64 r)])] := by
  unfold m_spec_l28Back at h
  refine scalls_n (N := 8) (vars := [.tmp 2]) Tryz.func83 rfl rfl rfl (by decide +kernel) (Nat.le_of_ble_eq_true rfl) fun base wd => ?_
  refine sq (rn ?_)
  refine an (sq (sq (rn ?_)))
  refine an ?_
  rcases bcase (decide (p0 < (-1000000000000))) with b1 | b1
  · replace h := ite_t b1 h
    refine ct (sq (rn ?_))
    refine an (rt ?_)
    cases h
    simp [Ret, TB, EN, *]
  replace h := ite_f b1 h
  refine cf (sk (an (sq (rn ?_))))
  refine an (rt ?_)
  cases h
  simp [Ret, TB, EN, *]

set_option maxHeartbeats 4000000 in
theorem c_spec_IsEvictable (p0 : M.Bucket) (p1 : List M.Page) (p2 : Int) (r : Bool) (h : m_spec_IsEvictable p0 p1 p2 = some r) : SCalls Tryz.prog 29 [(true, M.Bucket.en p0), (false, [.sl (List.map M.Page.en p1)]), (false, [.int .i64 p2])] [(false, [.ro (.bool r)])] := by
  unfold m_spec_IsEvictable at h
  simp only [M.Bucket.en]
  refine scalls_n (N := 51) (vars := [.tmp 6]) Tryz.func29 rfl rfl rfl (by decide +kernel) (Nat.le_of_ble_eq_true rfl) fun base wd => ?_
  refine sq (rn ?_)
  refine an (sq (sq (rn ?_)))
  refine an (bk ?_)
  refine SW_loop (fun m s => ∃ v7 : Int, s.t 1 = .v false [.dat (.sl (List.map M.Page.en p1))] ∧ s.t 2 = .v false [.dat (.int .i64 p2)] ∧ s.t 3 = .v false [.bp 3 1 0] ∧ s.t 7 = .v false [.dat (.int .i64 v7)] ∧ s.h 3 = (1, .box 69 [.dat (.str p0.Site), .dat (.str p0.Top), .dat (.str p0.Registration.Site), .dat (.int .i64 p0.Registration.Installing), .dat (.int .i64 p0.Registration.Waiting), .dat (.int .i64 p0.Registration.Active), .dat (.sl (List.map M.Cache.en p0.Caches.Caches)), .dat (.str p0.Disk.Base.Name), .dat (.int .i64 p0.Disk.Base.Version), .dat (.sl (List.map M.Store.en p0.Disk.Base.Stores)), .dat (.sl (List.map M.IndexDef.en p0.Disk.Base.Unique)), .dat (.sl (List.map enB p0.Disk.Log)), .dat (.int .i64 p0.Disk.Count), .dat (.str p0.Replica.Base.Name), .dat (.sl (List.map M.Item.en p0.Replica.Base.Items)), .dat (.int .i64 p0.Replica.Base.Auto), .dat (.int .i64 p0.Replica.Seen), .dat (.int .i64 p0.Replica.Sync.Outbox.Device), .dat (.int .i64 p0.Replica.Sync.Outbox.Next), .dat (.sl (List.map M.Write.en p0.Replica.Sync.Outbox.Writes)), .dat (.int .i64 p0.Replica.Sync.Tries), .dat (.int .i64 p0.Replica.Sync.WaitUntil), .dat (.int .i64 p0.LastUsed), .dat (.bool p0.Persistent)]) ∧ m_spec_IsEvictable_L1 p0 p1 p2 m v7 = some r) fuel ?_ ?_
  · refine ⟨0, ?_, ?_, ?_, ?_, ?_, h⟩
    all_goals simp +decide only [F, reduceIte, Nat.reduceAdd, Bool.not_true, Bool.not_false, EN, *, -h]
  rintro mL1 s1 ⟨v7, f2, f3, f4, f5, f6, h⟩
  rcases mL1 with _ | mL1
  · exact absurd h (by simp [m_spec_IsEvictable_L1])
  simp only [m_spec_IsEvictable_L1] at h
  refine sq (sq (rn ?_))
  refine an ?_
  rcases bcas (decide (v7 < (List.length p1 : Int))) with b7 | b7
  · replace h := ite_f b7 h
    refine cf (xt (aft_cx (aft_ix (aft_x (an (sq ?_))))))
    obtain ⟨x15, h16, h⟩ := bind_some h
    rcases bcas (decide (p0.LastUsed < x15)) with b17 | b17
    · replace h := ite_f b17 h
      refine rd1 mixed (c_spec_l28Back _ _ h16) ?_
      refine an (rt ?_)
      cases h
      simp [Ret, TB, EN, *]
    replace h := ite_t b17 h
    rcases bcase (!p0.Persistent) with b18 | b18
    · replace h := ite_t b18 h
      refine rd1 mixed (c_spec_l28Back _ _ h16) ?_
      refine an (rt ?_)
      cases h
      simp [Ret, TB, EN, *]
    replace h := ite_f b18 h
    refine rd1 mixed (c_spec_l28Back _ _ h16) ?_
    refine an (rt ?_)
    cases h
    simp [Ret, TB, EN, *]
  replace h := ite_t b7 h
  refine ct (sk (an (sq (bk (sq ?_)))))
  obtain ⟨x8, h9, h⟩ := bind_some h
  obtain ⟨q10, q11, q12⟩ := idx_some h9
  rcases bcas (x8.Site.toList == p0.Site.toList) with b13 | b13
  · replace h := ite_f b13 h
    refine rd mixed ?_
    refine an (cf (sk (ab (an (rn ?_)))))
    refine aft_i ⟨mL1, by omega, (IntKind.i64.wrap (v7 + 1)), ?_, ?_, ?_, ?_, ?_, h⟩
    all_goals simp +decide only [F, reduceIte, Nat.reduceAdd, Bool.not_true, Bool.not_false, EN, *, -h]
  replace h := ite_t b13 h
  refine rd mixed ?_
  refine an ?_
  rcases bcase (x8.Top.toList == p0.Top.toList) with b14 | b14
  · replace h := ite_t b14 h
    refine ct (sq (rn ?_))
    refine an (rt ?_)
    cases h
    simp [Ret, TB, EN, *]
  replace h := ite_f b14 h
  refine cf (sk (ab (an (rn ?_))))
  refine aft_i ⟨mL1, by omega, (IntKind.i64.wrap (v7 + 1)), ?_, ?_, ?_, ?_, ?_, h⟩
  all_goals simp +decide only [F, reduceIte, Nat.reduceAdd, Bool.not_true, Bool.not_false, EN, *, -h]

set_option maxHeartbeats 4000000 in
theorem c_spec_l15Copy (p0 : M.Response) (r : M.Response) (h : m_spec_l15Copy p0 = some r) : SCalls Tryz.prog 307 [(true, M.Response.en p0)] [(true, [.ro (.int .i64 r.Type_), .ro (.int .i64 r.Status), .ro (.int .i64 r.Version), .own 5 1 (List.map enB r.Body), .ro (.bool r.Shares)])] := by
  unfold m_spec_l15Copy at h
  simp only [M.Response.en]
  refine scalls_n (N := 11) (vars := [.cell 2 187]) Tryz.func307 rfl rfl rfl (by decide +kernel) (Nat.le_of_ble_eq_true rfl) fun base wd => ?_
  refine sq (rn ?_)
  refine an (sq (rn ?_))
  refine an (sq ?_)
  obtain ⟨x1, h2, h⟩ := bind_some h
  refine rn1 h2 ?_
  refine an (sq (rn ?_))
  refine an (rt ?_)
  cases h
  simp [Ret, TB, EN, *]

set_option maxHeartbeats 4000000 in
theorem c_spec_l17Cache (p0 : M.Cache) (r : M.Cache) (h : m_spec_l17Cache p0 = some r) : SCalls Tryz.prog 267 [(true, M.Cache.en p0)] [(true, [.ro (.int .i64 r.Version), .own 189 7 (List.map M.Cached.en r.Entries)])] := by
  unfold m_spec_l17Cache at h
  simp only [M.Cache.en]
  refine scalls_n (N := 36) (vars := [.cell 2 185]) Tryz.func267 rfl rfl rfl (by decide +kernel) (Nat.le_of_ble_eq_true rfl) fun base wd => ?_
  refine sq (rn ?_)
  refine an (sq (rn ?_))
  refine an (sq (sq (rn ?_)))
  refine an (bk ?_)
  refine SW_gho ((Gho.own_b (b := 3) (c := 1) (K := 7030000) 189 7 (by simp +decide only [F, reduceIte, Nat.reduceAdd, Bool.not_true, Bool.not_false, EN, *, -h]; rfl) rfl (by decide))) ?_
  refine SW_loopG (fun m s => ∃ v4 : Int, ∃ r30000 : List M.Cached, ∃ u30000 : Nat, s.t 1 = .v false [.bp 1 1 0] ∧ s.t 2 = .v false [.bp 2 1 0] ∧ s.t 3 = .v false [.bp 3 1 0] ∧ s.t 4 = .v false [.dat (.int .i64 v4)] ∧ s.h 1 = (1, .box 185 [.dat (.int .i64 p0.Version), .dat (.sl (List.map M.Cached.en p0.Entries))]) ∧ s.h 2 = (1, .box 185 [.dat (.int .i64 0), .nil]) ∧ s.h 3 = (1, .box 185 [.dat (.int .i64 p0.Version), .row 7030000 u30000]) ∧ s.h 7030000 = (u30000, .row 189 7 (List.map M.Cached.en r30000) true) ∧ m_spec_l17Cache_L1 p0 m v4 r30000 = some r) fuel ?_ ?_
  · refine ⟨0, ([] : List M.Cached), 1, ?_, ?_, ?_, ?_, ?_, ?_, ?_, ?_, h⟩
    all_goals simp +decide only [F, reduceIte, Nat.reduceAdd, Bool.not_true, Bool.not_false, EN, *, -h]
  rintro mL1 s1 ⟨v4, r30000, u30000, f2, f3, f4, f5, f6, f7, f8, f9, h⟩
  rcases mL1 with _ | mL1
  · exact absurd h (by simp [m_spec_l17Cache_L1])
  simp only [m_spec_l17Cache_L1] at h
  refine sq (sq (rn ?_))
  refine an ?_
  rcases bcas (decide (v4 < (List.length p0.Entries : Int))) with b10 | b10
  · replace h := ite_f b10 h
    refine cf (xt (aft_cx (aft_ix (aft_x (an (sq (rn ?_)))))))
    refine an (rt ?_)
    cases h
    simp [Ret, TB, EN, *]
  replace h := ite_t b10 h
  refine ct (sk (an (sq (bk (sq ?_)))))
  obtain ⟨x11, h12, h⟩ := bind_some h
  obtain ⟨q13, q14, q15⟩ := idx_some h12
  refine rn ?_
  refine an (sq ?_)
  obtain ⟨x16, h17, h⟩ := bind_some h
  refine rn1 (c_spec_l15Copy _ _ h17) ?_
  refine an ?_
  obtain ⟨x18, h19, h⟩ := bind_some h
  refine rn1 h19 ?_
  refine ab (an ?_)
  refine cu (fun s => s.t 1 = .v false [.bp 1 1 0] ∧ s.t 2 = .v false [.bp 2 1 0] ∧ s.t 3 = .v false [.bp 3 1 0] ∧ s.t 4 = .v false [.dat (.int .i64 v4)] ∧ s.h 1 = (1, .box 185 [.dat (.int .i64 p0.Version), .dat (.sl (List.map M.Cached.en p0.Entries))]) ∧ s.h 2 = (1, .box 185 [.dat (.int .i64 0), .nil]) ∧ s.h 3 = (1, .box 185 [.dat (.int .i64 p0.Version), .row 7030000 (u30000 + 1)]) ∧ s.h 7030000 = ((u30000 + 1), .row 189 7 (List.map M.Cached.en (r30000 ++ [(⟨x11.Site, x11.Path, x16⟩ : M.Cached)])) true) ∧ True) ?_
  rintro s20 ⟨f21, f22, f23, f24, f25, f26, f27, f28, _⟩
  refine rn ?_
  refine aft_i ⟨_, (Gho.ren_b (b := 3) (c := 1) (K := 7030000) (j := 7030000) (by simp +decide only [F, reduceIte, Nat.reduceAdd, Bool.not_true, Bool.not_false, EN, *, -h]; rfl) rfl (by simp +decide only [F, reduceIte, Nat.reduceAdd, Bool.not_true, Bool.not_false, EN, *, -h]; rfl) (by decide)), mL1, by omega, (IntKind.i64.wrap (v4 + 1)), (r30000 ++ [(⟨x11.Site, x11.Path, x16⟩ : M.Cached)]), ((u30000 + 1) + 1), ?_, ?_, ?_, ?_, ?_, ?_, ?_, ?_, h⟩
  all_goals simp +decide only [F, reduceIte, Nat.reduceAdd, Bool.not_true, Bool.not_false, EN, *, -h]

set_option maxHeartbeats 4000000 in
theorem c_spec_l17Copy (p0 : M.CacheSet) (r : M.CacheSet) (h : m_spec_l17Copy p0 = some r) : SCalls Tryz.prog 189 [(true, M.CacheSet.en p0)] [(true, [.own 185 2 (List.map M.Cache.en r.Caches)])] := by
  unfold m_spec_l17Copy at h
  simp only [M.CacheSet.en]
  refine scalls_n (N := 25) (vars := [.cell 2 51]) Tryz.func189 rfl rfl rfl (by decide +kernel) (Nat.le_of_ble_eq_true rfl) fun base wd => ?_
  refine sq (rn ?_)
  refine an (sq (rn ?_))
  refine an (sq (sq (rn ?_)))
  refine an (bk ?_)
  refine SW_gho ((Gho.own_b (b := 3) (c := 0) (K := 7030000) 185 2 (by simp +decide only [F, reduceIte, Nat.reduceAdd, Bool.not_true, Bool.not_false, EN, *, -h]; rfl) rfl (by decide))) ?_
  refine SW_loopG (fun m s => ∃ v4 : Int, ∃ r30000 : List M.Cache, ∃ u30000 : Nat, s.t 1 = .v false [.bp 1 1 0] ∧ s.t 2 = .v false [.bp 2 1 0] ∧ s.t 3 = .v false [.bp 3 1 0] ∧ s.t 4 = .v false [.dat (.int .i64 v4)] ∧ s.h 1 = (1, .box 51 [.dat (.sl (List.map M.Cache.en p0.Caches))]) ∧ s.h 2 = (1, .box 51 [.nil]) ∧ s.h 3 = (1, .box 51 [.row 7030000 u30000]) ∧ s.h 7030000 = (u30000, .row 185 2 (List.map M.Cache.en r30000) true) ∧ m_spec_l17Copy_L1 p0 m v4 r30000 = some r) fuel ?_ ?_
  · refine ⟨0, ([] : List M.Cache), 1, ?_, ?_, ?_, ?_, ?_, ?_, ?_, ?_, h⟩
    all_goals simp +decide only [F, reduceIte, Nat.reduceAdd, Bool.not_true, Bool.not_false, EN, *, -h]
  rintro mL1 s1 ⟨v4, r30000, u30000, f2, f3, f4, f5, f6, f7, f8, f9, h⟩
  rcases mL1 with _ | mL1
  · exact absurd h (by simp [m_spec_l17Copy_L1])
  simp only [m_spec_l17Copy_L1] at h
  refine sq (sq (rn ?_))
  refine an ?_
  rcases bcas (decide (v4 < (List.length p0.Caches : Int))) with b10 | b10
  · replace h := ite_f b10 h
    refine cf (xt (aft_cx (aft_ix (aft_x (an (sq (rn ?_)))))))
    refine an (rt ?_)
    cases h
    simp [Ret, TB, EN, *]
  replace h := ite_t b10 h
  refine ct (sk (an (sq (bk ?_))))
  obtain ⟨x11, h12, h⟩ := bind_some h
  obtain ⟨q13, q14, q15⟩ := idx_some h12
  obtain ⟨x16, h17, h⟩ := bind_some h
  obtain ⟨x18, h19, h⟩ := bind_some h
  refine rd2 mixed (c_spec_l17Cache _ _ h17) h19 ?_
  refine ab (an ?_)
  refine cu (fun s => s.t 1 = .v false [.bp 1 1 0] ∧ s.t 2 = .v false [.bp 2 1 0] ∧ s.t 3 = .v false [.bp 3 1 0] ∧ s.t 4 = .v false [.dat (.int .i64 v4)] ∧ s.h 1 = (1, .box 51 [.dat (.sl (List.map M.Cache.en p0.Caches))]) ∧ s.h 2 = (1, .box 51 [.nil]) ∧ s.h 3 = (1, .box 51 [.row 7030000 (u30000 + 1)]) ∧ s.h 7030000 = ((u30000 + 1), .row 185 2 (List.map M.Cache.en (r30000 ++ [x16])) true) ∧ True) ?_
  rintro s20 ⟨f21, f22, f23, f24, f25, f26, f27, f28, _⟩
  refine rn ?_
  refine aft_i ⟨_, (Gho.ren_b (b := 3) (c := 0) (K := 7030000) (j := 7030000) (by simp +decide only [F, reduceIte, Nat.reduceAdd, Bool.not_true, Bool.not_false, EN, *, -h]; rfl) rfl (by simp +decide only [F, reduceIte, Nat.reduceAdd, Bool.not_true, Bool.not_false, EN, *, -h]; rfl) (by decide)), mL1, by omega, (IntKind.i64.wrap (v4 + 1)), (r30000 ++ [x16]), ((u30000 + 1) + 1), ?_, ?_, ?_, ?_, ?_, ?_, ?_, ?_, h⟩
  all_goals simp +decide only [F, reduceIte, Nat.reduceAdd, Bool.not_true, Bool.not_false, EN, *, -h]

set_option maxHeartbeats 4000000 in
theorem c_spec_l5Copy (p0 : M.Record) (r : M.Record) (h : m_spec_l5Copy p0 = some r) : SCalls Tryz.prog 324 [(true, M.Record.en p0)] [(true, [.own 273 2 (List.map M.Field.en r.Fields)])] := by
  unfold m_spec_l5Copy at h
  simp only [M.Record.en]
  refine scalls_n (N := 8) (vars := [.cell 2 206]) Tryz.func324 rfl rfl rfl (by decide +kernel) (Nat.le_of_ble_eq_true rfl) fun base wd => ?_
  refine sq (rn ?_)
  refine an (sq ?_)
  obtain ⟨x1, h2, h⟩ := bind_some h
  refine rn1 h2 ?_
  refine an (rt ?_)
  cases h
  simp [Ret, TB, EN, *]

set_option maxHeartbeats 4000000 in
theorem c_spec_l6Item (p0 : M.Item) (r : M.Item) (h : m_spec_l6Item p0 = some r) : SCalls Tryz.prog 300 [(true, M.Item.en p0)] [(true, [.ro (.int .i64 r.Key.Kind), .ro (.int .i64 r.Key.N), .ro (.str r.Key.Text), .own 273 2 (List.map M.Field.en r.Record.Fields)])] := by
  unfold m_spec_l6Item at h
  simp only [M.Item.en]
  refine scalls_n (N := 9) (vars := [.cell 2 208]) Tryz.func300 rfl rfl rfl (by decide +kernel) (Nat.le_of_ble_eq_true rfl) fun base wd => ?_
  refine sq (rn ?_)
  refine an (sq ?_)
  obtain ⟨x1, h2, h⟩ := bind_some h
  refine rd1 mixed (c_spec_l5Copy _ _ h2) ?_
  refine an (rt ?_)
  cases h
  simp [Ret, TB, EN, *]

set_option maxHeartbeats 4000000 in
theorem c_spec_l6Copy (p0 : M.Store) (r : M.Store) (h : m_spec_l6Copy p0 = some r) : SCalls Tryz.prog 268 [(true, M.Store.en p0)] [(true, [.ro (.str r.Name), .own 208 4 (List.map M.Item.en r.Items), .ro (.int .i64 r.Auto)])] := by
  unfold m_spec_l6Copy at h
  simp only [M.Store.en]
  refine scalls_n (N := 29) (vars := [.cell 2 60]) Tryz.func268 rfl rfl rfl (by decide +kernel) (Nat.le_of_ble_eq_true rfl) fun base wd => ?_
  refine sq (rn ?_)
  refine an (sq (rn ?_))
  refine an (sq (sq (rn ?_)))
  refine an (bk ?_)
  refine SW_gho ((Gho.own_b (b := 3) (c := 1) (K := 7030000) 208 4 (by simp +decide only [F, reduceIte, Nat.reduceAdd, Bool.not_true, Bool.not_false, EN, *, -h]; rfl) rfl (by decide))) ?_
  refine SW_loopG (fun m s => ∃ v4 : Int, ∃ r30000 : List M.Item, ∃ u30000 : Nat, s.t 1 = .v false [.bp 1 1 0] ∧ s.t 2 = .v false [.bp 2 1 0] ∧ s.t 3 = .v false [.bp 3 1 0] ∧ s.t 4 = .v false [.dat (.int .i64 v4)] ∧ s.h 1 = (1, .box 60 [.dat (.str p0.Name), .dat (.sl (List.map M.Item.en p0.Items)), .dat (.int .i64 p0.Auto)]) ∧ s.h 2 = (1, .box 60 [.dat (.str (⟨#[]⟩ : ByteArray)), .nil, .dat (.int .i64 0)]) ∧ s.h 3 = (1, .box 60 [.dat (.str p0.Name), .row 7030000 u30000, .dat (.int .i64 p0.Auto)]) ∧ s.h 7030000 = (u30000, .row 208 4 (List.map M.Item.en r30000) true) ∧ m_spec_l6Copy_L1 p0 m v4 r30000 = some r) fuel ?_ ?_
  · refine ⟨0, ([] : List M.Item), 1, ?_, ?_, ?_, ?_, ?_, ?_, ?_, ?_, h⟩
    all_goals simp +decide only [F, reduceIte, Nat.reduceAdd, Bool.not_true, Bool.not_false, EN, *, -h]
  rintro mL1 s1 ⟨v4, r30000, u30000, f2, f3, f4, f5, f6, f7, f8, f9, h⟩
  rcases mL1 with _ | mL1
  · exact absurd h (by simp [m_spec_l6Copy_L1])
  simp only [m_spec_l6Copy_L1] at h
  refine sq (sq (rn ?_))
  refine an ?_
  rcases bcas (decide (v4 < (List.length p0.Items : Int))) with b10 | b10
  · replace h := ite_f b10 h
    refine cf (xt (aft_cx (aft_ix (aft_x (an (sq (rn ?_)))))))
    refine an (rt ?_)
    cases h
    simp [Ret, TB, EN, *]
  replace h := ite_t b10 h
  refine ct (sk (an (sq (bk ?_))))
  obtain ⟨x11, h12, h⟩ := bind_some h
  obtain ⟨q13, q14, q15⟩ := idx_some h12
  obtain ⟨x16, h17, h⟩ := bind_some h
  obtain ⟨x18, h19, h⟩ := bind_some h
  refine rd2 mixed (c_spec_l6Item _ _ h17) h19 ?_
  refine ab (an ?_)
  refine cu (fun s => s.t 1 = .v false [.bp 1 1 0] ∧ s.t 2 = .v false [.bp 2 1 0] ∧ s.t 3 = .v false [.bp 3 1 0] ∧ s.t 4 = .v false [.dat (.int .i64 v4)] ∧ s.h 1 = (1, .box 60 [.dat (.str p0.Name), .dat (.sl (List.map M.Item.en p0.Items)), .dat (.int .i64 p0.Auto)]) ∧ s.h 2 = (1, .box 60 [.dat (.str (⟨#[]⟩ : ByteArray)), .nil, .dat (.int .i64 0)]) ∧ s.h 3 = (1, .box 60 [.dat (.str p0.Name), .row 7030000 (u30000 + 1), .dat (.int .i64 p0.Auto)]) ∧ s.h 7030000 = ((u30000 + 1), .row 208 4 (List.map M.Item.en (r30000 ++ [x16])) true) ∧ True) ?_
  rintro s20 ⟨f21, f22, f23, f24, f25, f26, f27, f28, _⟩
  refine rn ?_
  refine aft_i ⟨_, (Gho.ren_b (b := 3) (c := 1) (K := 7030000) (j := 7030000) (by simp +decide only [F, reduceIte, Nat.reduceAdd, Bool.not_true, Bool.not_false, EN, *, -h]; rfl) rfl (by simp +decide only [F, reduceIte, Nat.reduceAdd, Bool.not_true, Bool.not_false, EN, *, -h]; rfl) (by decide)), mL1, by omega, (IntKind.i64.wrap (v4 + 1)), (r30000 ++ [x16]), ((u30000 + 1) + 1), ?_, ?_, ?_, ?_, ?_, ?_, ?_, ?_, h⟩
  all_goals simp +decide only [F, reduceIte, Nat.reduceAdd, Bool.not_true, Bool.not_false, EN, *, -h]

set_option maxHeartbeats 4000000 in
theorem c_spec_l8Copy (p0 : M.Database) (r : M.Database) (h : m_spec_l8Copy p0 = some r) : SCalls Tryz.prog 204 [(true, M.Database.en p0)] [(true, [.ro (.str r.Name), .ro (.int .i64 r.Version), .own 60 3 (List.map M.Store.en r.Stores), .own 225 2 (List.map M.IndexDef.en r.Unique)])] := by
  unfold m_spec_l8Copy at h
  simp only [M.Database.en]
  refine scalls_n (N := 33) (vars := [.cell 2 55]) Tryz.func204 rfl rfl rfl (by decide +kernel) (Nat.le_of_ble_eq_true rfl) fun base wd => ?_
  refine sq (rn ?_)
  refine an (sq ?_)
  obtain ⟨x1, h2, h⟩ := bind_some h
  refine rd1 mixed h2 ?_
  refine an (sq (sq ?_))
  refine cu (fun s => s.t 1 = .v false [.bp 1 1 0] ∧ s.t 2 = .v false [.bp 2 1 0] ∧ s.t 3 = .v false [.bp 3 1 0] ∧ s.h 1 = (1, .box 55 [.dat (.str p0.Name), .dat (.int .i64 p0.Version), .dat (.sl (List.map M.Store.en p0.Stores)), .dat (.sl (List.map M.IndexDef.en p0.Unique))]) ∧ s.h 2 = (1, .box 55 [.dat (.str (⟨#[]⟩ : ByteArray)), .dat (.int .i64 0), .nil, .nil]) ∧ s.h 3 = (1, .box 55 [.dat (.str p0.Name), .dat (.int .i64 p0.Version), .nil, .row 100009 2]) ∧ s.h 100009 = (2, .row 225 2 (List.map M.IndexDef.en p0.Unique) true) ∧ True) ?_
  rintro s3 ⟨f4, f5, f6, f7, f8, f9, f10, _⟩
  refine rn ?_
  refine an (bk ?_)
  refine SW_gho ((Gho.own_b (b := 3) (c := 2) (K := 7030000) 60 3 (by simp +decide only [F, reduceIte, Nat.reduceAdd, Bool.not_true, Bool.not_false, EN, *, -h]; rfl) rfl (by decide))) ?_
  refine SW_loopG (fun m s => ∃ v4 : Int, ∃ r30000 : List M.Store, ∃ u30000 : Nat, s.t 1 = .v false [.bp 1 1 0] ∧ s.t 2 = .v false [.bp 2 1 0] ∧ s.t 3 = .v false [.bp 3 1 0] ∧ s.t 4 = .v false [.dat (.int .i64 v4)] ∧ s.h 1 = (1, .box 55 [.dat (.str p0.Name), .dat (.int .i64 p0.Version), .dat (.sl (List.map M.Store.en p0.Stores)), .dat (.sl (List.map M.IndexDef.en p0.Unique))]) ∧ s.h 2 = (1, .box 55 [.dat (.str (⟨#[]⟩ : ByteArray)), .dat (.int .i64 0), .nil, .nil]) ∧ s.h 3 = (1, .box 55 [.dat (.str p0.Name), .dat (.int .i64 p0.Version), .row 7030000 u30000, .row 100009 2]) ∧ s.h 100009 = (2, .row 225 2 (List.map M.IndexDef.en p0.Unique) true) ∧ s.h 7030000 = (u30000, .row 60 3 (List.map M.Store.en r30000) true) ∧ m_spec_l8Copy_L1 p0 m v4 r30000 = some r) fuel ?_ ?_
  · refine ⟨0, ([] : List M.Store), ((s3.h 7030000).1 + 1), ?_, ?_, ?_, ?_, ?_, ?_, ?_, ?_, ?_, h⟩
    all_goals simp +decide only [F, reduceIte, Nat.reduceAdd, Bool.not_true, Bool.not_false, EN, *, -h]
  rintro mL1 s11 ⟨v4, r30000, u30000, f12, f13, f14, f15, f16, f17, f18, f19, f20, h⟩
  rcases mL1 with _ | mL1
  · exact absurd h (by simp [m_spec_l8Copy_L1])
  simp only [m_spec_l8Copy_L1] at h
  refine sq (sq (rn ?_))
  refine an ?_
  rcases bcas (decide (v4 < (List.length p0.Stores : Int))) with b21 | b21
  · replace h := ite_f b21 h
    refine cf (xt (aft_cx (aft_ix (aft_x (an (sq (rn ?_)))))))
    refine an (rt ?_)
    cases h
    simp [Ret, TB, EN, *]
  replace h := ite_t b21 h
  refine ct (sk (an (sq (bk ?_))))
  obtain ⟨x22, h23, h⟩ := bind_some h
  obtain ⟨q24, q25, q26⟩ := idx_some h23
  obtain ⟨x27, h28, h⟩ := bind_some h
  obtain ⟨x29, h30, h⟩ := bind_some h
  refine rd2 mixed (c_spec_l6Copy _ _ h28) h30 ?_
  refine ab (an ?_)
  refine cu (fun s => s.t 1 = .v false [.bp 1 1 0] ∧ s.t 2 = .v false [.bp 2 1 0] ∧ s.t 3 = .v false [.bp 3 1 0] ∧ s.t 4 = .v false [.dat (.int .i64 v4)] ∧ s.h 1 = (1, .box 55 [.dat (.str p0.Name), .dat (.int .i64 p0.Version), .dat (.sl (List.map M.Store.en p0.Stores)), .dat (.sl (List.map M.IndexDef.en p0.Unique))]) ∧ s.h 2 = (1, .box 55 [.dat (.str (⟨#[]⟩ : ByteArray)), .dat (.int .i64 0), .nil, .nil]) ∧ s.h 3 = (1, .box 55 [.dat (.str p0.Name), .dat (.int .i64 p0.Version), .row 7030000 (u30000 + 1), .row 100009 2]) ∧ s.h 100009 = (2, .row 225 2 (List.map M.IndexDef.en p0.Unique) true) ∧ s.h 7030000 = ((u30000 + 1), .row 60 3 (List.map M.Store.en (r30000 ++ [x27])) true) ∧ True) ?_
  rintro s31 ⟨f32, f33, f34, f35, f36, f37, f38, f39, f40, _⟩
  refine rn ?_
  refine aft_i ⟨_, (Gho.ren_b (b := 3) (c := 2) (K := 7030000) (j := 7030000) (by simp +decide only [F, reduceIte, Nat.reduceAdd, Bool.not_true, Bool.not_false, EN, *, -h]; rfl) rfl (by simp +decide only [F, reduceIte, Nat.reduceAdd, Bool.not_true, Bool.not_false, EN, *, -h]; rfl) (by decide)), mL1, by omega, (IntKind.i64.wrap (v4 + 1)), (r30000 ++ [x27]), ((u30000 + 1) + 1), ?_, ?_, ?_, ?_, ?_, ?_, ?_, ?_, ?_, h⟩
  all_goals simp +decide only [F, reduceIte, Nat.reduceAdd, Bool.not_true, Bool.not_false, EN, *, -h]

set_option maxHeartbeats 4000000 in
theorem c_spec_l12Copy (p0 : M.Disk) (r : M.Disk) (h : m_spec_l12Copy p0 = some r) : SCalls Tryz.prog 119 [(true, M.Disk.en p0)] [(true, [.ro (.str r.Base.Name), .ro (.int .i64 r.Base.Version), .own 60 3 (List.map M.Store.en r.Base.Stores), .own 225 2 (List.map M.IndexDef.en r.Base.Unique), .own 5 1 (List.map enB r.Log), .ro (.int .i64 r.Count)])] := by
  unfold m_spec_l12Copy at h
  simp only [M.Disk.en]
  refine scalls_n (N := 13) (vars := [.cell 2 57]) Tryz.func119 rfl rfl rfl (by decide +kernel) (Nat.le_of_ble_eq_true rfl) fun base wd => ?_
  refine sq (rn ?_)
  refine an (sq ?_)
  obtain ⟨x1, h2, h⟩ := bind_some h
  obtain ⟨x3, h4, h⟩ := bind_some h
  refine rd2 mixed (c_spec_l8Copy _ _ h2) h4 ?_
  refine an (rt ?_)
  cases h
  simp [Ret, TB, EN, *]

set_option maxHeartbeats 4000000 in
theorem c_spec_l20Copy (p0 : M.Outbox) (r : M.Outbox) (h : m_spec_l20Copy p0 = some r) : SCalls Tryz.prog 308 [(true, M.Outbox.en p0)] [(true, [.ro (.int .i64 r.Device), .ro (.int .i64 r.Next), .own 285 7 (List.map M.Write.en r.Writes)])] := by
  unfold m_spec_l20Copy at h
  simp only [M.Outbox.en]
  refine scalls_n (N := 11) (vars := [.cell 2 63]) Tryz.func308 rfl rfl rfl (by decide +kernel) (Nat.le_of_ble_eq_true rfl) fun base wd => ?_
  refine sq (rn ?_)
  refine an (sq (rn ?_))
  refine an (sq ?_)
  obtain ⟨x1, h2, h⟩ := bind_some h
  refine rn1 h2 ?_
  refine an (sq (rn ?_))
  refine an (rt ?_)
  cases h
  simp [Ret, TB, EN, *]

set_option maxHeartbeats 4000000 in
theorem c_spec_l22Copy (p0 : M.Sync) (r : M.Sync) (h : m_spec_l22Copy p0 = some r) : SCalls Tryz.prog 269 [(true, M.Sync.en p0)] [(true, [.ro (.int .i64 r.Outbox.Device), .ro (.int .i64 r.Outbox.Next), .own 285 7 (List.map M.Write.en r.Outbox.Writes), .ro (.int .i64 r.Tries), .ro (.int .i64 r.WaitUntil)])] := by
  unfold m_spec_l22Copy at h
  simp only [M.Sync.en]
  refine scalls_n (N := 10) (vars := [.cell 2 65]) Tryz.func269 rfl rfl rfl (by decide +kernel) (Nat.le_of_ble_eq_true rfl) fun base wd => ?_
  refine sq (rn ?_)
  refine an (sq (rn ?_))
  refine an (sq ?_)
  obtain ⟨x1, h2, h⟩ := bind_some h
  refine rn1 (c_spec_l20Copy _ _ h2) ?_
  refine an (sq (rn ?_))
  refine an (rt ?_)
  cases h
  simp [Ret, TB, EN, *]

set_option maxHeartbeats 4000000 in
theorem c_spec_l23Copy (p0 : M.Replica) (r : M.Replica) (h : m_spec_l23Copy p0 = some r) : SCalls Tryz.prog 190 [(true, M.Replica.en p0)] [(true, [.ro (.str r.Base.Name), .own 208 4 (List.map M.Item.en r.Base.Items), .ro (.int .i64 r.Base.Auto), .ro (.int .i64 r.Seen), .ro (.int .i64 r.Sync.Outbox.Device), .ro (.int .i64 r.Sync.Outbox.Next), .own 285 7 (List.map M.Write.en r.Sync.Outbox.Writes), .ro (.int .i64 r.Sync.Tries), .ro (.int .i64 r.Sync.WaitUntil)])] := by
  unfold m_spec_l23Copy at h
  simp only [M.Replica.en]
  refine scalls_n (N := 12) (vars := [.cell 2 67]) Tryz.func190 rfl rfl rfl (by decide +kernel) (Nat.le_of_ble_eq_true rfl) fun base wd => ?_
  refine sq (rn ?_)
  refine an (sq ?_)
  obtain ⟨x1, h2, h⟩ := bind_some h
  obtain ⟨x3, h4, h⟩ := bind_some h
  refine rd2 mixed (c_spec_l6Copy _ _ h2) (c_spec_l22Copy _ _ h4) ?_
  refine an (rt ?_)
  cases h
  simp [Ret, TB, EN, *]

set_option maxHeartbeats 4000000 in
theorem c_spec_l27Copy (p0 : M.Bucket) (r : M.Bucket) (h : m_spec_l27Copy p0 = some r) : SCalls Tryz.prog 109 [(true, M.Bucket.en p0)] [(true, [.ro (.str r.Site), .ro (.str r.Top), .ro (.str r.Registration.Site), .ro (.int .i64 r.Registration.Installing), .ro (.int .i64 r.Registration.Waiting), .ro (.int .i64 r.Registration.Active), .own 185 2 (List.map M.Cache.en r.Caches.Caches), .ro (.str r.Disk.Base.Name), .ro (.int .i64 r.Disk.Base.Version), .own 60 3 (List.map M.Store.en r.Disk.Base.Stores), .own 225 2 (List.map M.IndexDef.en r.Disk.Base.Unique), .own 5 1 (List.map enB r.Disk.Log), .ro (.int .i64 r.Disk.Count), .ro (.str r.Replica.Base.Name), .own 208 4 (List.map M.Item.en r.Replica.Base.Items), .ro (.int .i64 r.Replica.Base.Auto), .ro (.int .i64 r.Replica.Seen), .ro (.int .i64 r.Replica.Sync.Outbox.Device), .ro (.int .i64 r.Replica.Sync.Outbox.Next), .own 285 7 (List.map M.Write.en r.Replica.Sync.Outbox.Writes), .ro (.int .i64 r.Replica.Sync.Tries), .ro (.int .i64 r.Replica.Sync.WaitUntil), .ro (.int .i64 r.LastUsed), .ro (.bool r.Persistent)])] := by
  unfold m_spec_l27Copy at h
  simp only [M.Bucket.en]
  refine scalls_n (N := 18) (vars := [.cell 2 69]) Tryz.func109 rfl rfl rfl (by decide +kernel) (Nat.le_of_ble_eq_true rfl) fun base wd => ?_
  refine sq (rn ?_)
  refine an (sq (rn ?_))
  refine an (sq ?_)
  obtain ⟨x1, h2, h⟩ := bind_some h
  refine rn1 (c_spec_l17Copy _ _ h2) ?_
  refine an (sq ?_)
  obtain ⟨x3, h4, h⟩ := bind_some h
  refine rn1 (c_spec_l12Copy _ _ h4) ?_
  refine an (sq ?_)
  obtain ⟨x5, h6, h⟩ := bind_some h
  refine rn1 (c_spec_l23Copy _ _ h6) ?_
  refine an (sq (rn ?_))
  refine an (rt ?_)
  cases h
  simp [Ret, TB, EN, *]

set_option maxHeartbeats 4000000 in
theorem c_spec_EvictOld (p0 : M.Storage) (p1 : List M.Page) (p2 : Int) (r : (M.Storage × (List ByteArray))) (h : m_spec_EvictOld p0 p1 p2 = some r) : SCalls Tryz.prog 41 [(true, M.Storage.en p0), (false, [.sl (List.map M.Page.en p1)]), (false, [.int .i64 p2])] [(true, [.own 69 24 (List.map M.Bucket.en r.1.Buckets)]), (false, [.own 9 1 (List.map enS r.2)])] := by
  unfold m_spec_EvictOld at h
  simp only [M.Storage.en]
  refine scalls_n (N := 58) (vars := [.cell 6 81, .tmp 7]) Tryz.func41 rfl rfl rfl (by decide +kernel) (Nat.le_of_ble_eq_true rfl) fun base wd => ?_
  refine sq (rn ?_)
  refine an (sq (rn ?_))
  refine an (sq (rn ?_))
  refine an (sq (sq ?_))
  refine cu (fun s => s.t 1 = .v false [.dat (.sl (List.map M.Page.en p1))] ∧ s.t 2 = .v false [.dat (.int .i64 p2)] ∧ s.t 3 = .v false [.bp 3 1 0] ∧ s.t 6 = .v false [.bp 6 1 0] ∧ s.t 8 = .v false [.bp 8 1 0] ∧ s.t 9 = .v false [.row 100012 1] ∧ s.h 3 = (1, .box 81 [.dat (.sl (List.map M.Bucket.en p0.Buckets))]) ∧ s.h 6 = (1, .box 81 [.nil]) ∧ s.h 8 = (1, .box 81 [.nil]) ∧ s.h 100012 = (1, .row 9 1 (List.map enS ([] : List ByteArray)) true) ∧ True) ?_
  rintro s1 ⟨f2, f3, f4, f5, f6, f7, f8, f9, f10, f11, _⟩
  refine rn ?_
  refine an (bk ?_)
  refine SW_gho ((Gho.own_b (b := 8) (c := 0) (K := 7080000) 69 24 (by simp +decide only [F, reduceIte, Nat.reduceAdd, Bool.not_true, Bool.not_false, EN, *, -h]; rfl) rfl (by decide))) ?_
  refine SW_loopG (fun m s => ∃ v10 : Int, ∃ r12 : List ByteArray, ∃ r80000 : List M.Bucket, ∃ u12 : Nat, ∃ u80000 : Nat, s.t 1 = .v false [.dat (.sl (List.map M.Page.en p1))] ∧ s.t 2 = .v false [.dat (.int .i64 p2)] ∧ s.t 3 = .v false [.bp 3 1 0] ∧ s.t 6 = .v false [.bp 6 1 0] ∧ s.t 8 = .v false [.bp 8 1 0] ∧ s.t 9 = .v false [.row 100012 u12] ∧ s.t 10 = .v false [.dat (.int .i64 v10)] ∧ s.h 3 = (1, .box 81 [.dat (.sl (List.map M.Bucket.en p0.Buckets))]) ∧ s.h 6 = (1, .box 81 [.nil]) ∧ s.h 8 = (1, .box 81 [.row 7080000 u80000]) ∧ s.h 100012 = (u12, .row 9 1 (List.map enS r12) true) ∧ s.h 7080000 = (u80000, .row 69 24 (List.map M.Bucket.en r80000) true) ∧ m_spec_EvictOld_L1 p0 p1 p2 m v10 r12 r80000 = some r) fuel ?_ ?_
  · refine ⟨0, ([] : List ByteArray), ([] : List M.Bucket), 1, ((s1.h 7080000).1 + 1), ?_, ?_, ?_, ?_, ?_, ?_, ?_, ?_, ?_, ?_, ?_, ?_, h⟩
    all_goals simp +decide only [F, reduceIte, Nat.reduceAdd, Bool.not_true, Bool.not_false, EN, *, -h]
  rintro mL1 s12 ⟨v10, r12, r80000, u12, u80000, f13, f14, f15, f16, f17, f18, f19, f20, f21, f22, f23, f24, h⟩
  rcases mL1 with _ | mL1
  · exact absurd h (by simp [m_spec_EvictOld_L1])
  simp only [m_spec_EvictOld_L1] at h
  refine sq (sq (rn ?_))
  refine an ?_
  rcases bcas (decide (v10 < (List.length p0.Buckets : Int))) with b25 | b25
  · replace h := ite_f b25 h
    refine cf (xt (aft_cx (aft_ix (aft_x (an (sq (rn ?_)))))))
    refine an (rt ?_)
    cases h
    simp [Ret, TB, EN, *]
  replace h := ite_t b25 h
  refine ct (sk (an (sq (bk (sq ?_)))))
  obtain ⟨x26, h27, h⟩ := bind_some h
  obtain ⟨q28, q29, q30⟩ := idx_some h27
  obtain ⟨x31, h32, h⟩ := bind_some h
  refine rn1 (c_spec_IsEvictable _ _ _ _ h32) ?_
  refine an ?_
  rcases bcas x31 with b33 | b33
  · replace h := ite_f b33 h
    refine cf ?_
    obtain ⟨x53, h54, h⟩ := bind_some h
    obtain ⟨x55, h56, h⟩ := bind_some h
    refine rd2 mixed (c_spec_l27Copy _ _ h54) h56 ?_
    refine ab (an ?_)
    refine cu (fun s => s.t 1 = .v false [.dat (.sl (List.map M.Page.en p1))] ∧ s.t 2 = .v false [.dat (.int .i64 p2)] ∧ s.t 3 = .v false [.bp 3 1 0] ∧ s.t 6 = .v false [.bp 6 1 0] ∧ s.t 8 = .v false [.bp 8 1 0] ∧ s.t 9 = .v false [.row 100012 u12] ∧ s.t 10 = .v false [.dat (.int .i64 v10)] ∧ s.h 3 = (1, .box 81 [.dat (.sl (List.map M.Bucket.en p0.Buckets))]) ∧ s.h 6 = (1, .box 81 [.nil]) ∧ s.h 8 = (1, .box 81 [.row 7080000 (u80000 + 1)]) ∧ s.h 100012 = (u12, .row 9 1 (List.map enS r12) true) ∧ s.h 7080000 = ((u80000 + 1), .row 69 24 (List.map M.Bucket.en (r80000 ++ [x53])) true) ∧ True) ?_
    rintro s57 ⟨f58, f59, f60, f61, f62, f63, f64, f65, f66, f67, f68, f69, _⟩
    refine rn ?_
    refine aft_i ⟨_, (Gho.ren_b (b := 8) (c := 0) (K := 7080000) (j := 7080000) (by simp +decide only [F, reduceIte, Nat.reduceAdd, Bool.not_true, Bool.not_false, EN, *, -h]; rfl) rfl (by simp +decide only [F, reduceIte, Nat.reduceAdd, Bool.not_true, Bool.not_false, EN, *, -h]; rfl) (by decide)), mL1, by omega, (IntKind.i64.wrap (v10 + 1)), r12, (r80000 ++ [x53]), u12, ((u80000 + 1) + 1), ?_, ?_, ?_, ?_, ?_, ?_, ?_, ?_, ?_, ?_, ?_, ?_, h⟩
    all_goals simp +decide only [F, reduceIte, Nat.reduceAdd, Bool.not_true, Bool.not_false, EN, *, -h]
  replace h := ite_t b33 h
  refine ct ?_
  obtain ⟨x34, h35, h⟩ := bind_some h
  have h35_ := cat_some h35
  obtain ⟨x36, h37, h⟩ := bind_some h
  have h37_ := cat_some h37
  obtain ⟨x38, h39, h⟩ := bind_some h
  refine rd3 mixed h35_ h37_ h39 ?_
  refine ab (an ?_)
  refine cu (fun s => s.t 1 = .v false [.dat (.sl (List.map M.Page.en p1))] ∧ s.t 2 = .v false [.dat (.int .i64 p2)] ∧ s.t 3 = .v false [.bp 3 1 0] ∧ s.t 6 = .v false [.bp 6 1 0] ∧ s.t 8 = .v false [.bp 8 1 0] ∧ s.t 9 = .v false [.row 100012 (u12 + 1)] ∧ s.t 10 = .v false [.dat (.int .i64 v10)] ∧ s.h 3 = (1, .box 81 [.dat (.sl (List.map M.Bucket.en p0.Buckets))]) ∧ s.h 6 = (1, .box 81 [.nil]) ∧ s.h 8 = (1, .box 81 [.row 7080000 u80000]) ∧ s.h 100012 = ((u12 + 1), .row 9 1 (List.map enS (r12 ++ [((x26.Site ++ (⟨#[47]⟩ : ByteArray)) ++ x26.Top)])) true) ∧ s.h 7080000 = (u80000, .row 69 24 (List.map M.Bucket.en r80000) true) ∧ True) ?_
  rintro s40 ⟨f41, f42, f43, f44, f45, f46, f47, f48, f49, f50, f51, f52, _⟩
  refine rn ?_
  refine aft_i ⟨_, (Gho.ren_b (b := 8) (c := 0) (K := 7080000) (j := 7080000) (by simp +decide only [F, reduceIte, Nat.reduceAdd, Bool.not_true, Bool.not_false, EN, *, -h]; rfl) rfl (by simp +decide only [F, reduceIte, Nat.reduceAdd, Bool.not_true, Bool.not_false, EN, *, -h]; rfl) (by decide)), mL1, by omega, (IntKind.i64.wrap (v10 + 1)), (r12 ++ [((x26.Site ++ (⟨#[47]⟩ : ByteArray)) ++ x26.Top)]), r80000, (u12 + 1), (u80000 + 1), ?_, ?_, ?_, ?_, ?_, ?_, ?_, ?_, ?_, ?_, ?_, ?_, h⟩
  all_goals simp +decide only [F, reduceIte, Nat.reduceAdd, Bool.not_true, Bool.not_false, EN, *, -h]

end Go.Proofs.YtgpiencmneiblaaGreat.gen
