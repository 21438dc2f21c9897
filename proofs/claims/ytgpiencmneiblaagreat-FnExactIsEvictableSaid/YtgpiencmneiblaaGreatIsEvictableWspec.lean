/-
  Helper text: walks: each function's contract out of its model. No conditions beyond those of each contract.
-/
import Derived.Test.YtgpiencmneiblaaGreatIsEvictableTi
namespace Go.Proofs.YtgpiencmneiblaaGreat.gen
open Go Go.Sh
set_option linter.unusedVariables false
set_option linter.unusedSimpArgs false
set_option maxHeartbeats 4000000 in
theorem c_spec_l28Back (p0 : Int) (r : Int) (h : m_spec_l28Back p0 = some r) : SCalls Tryz.prog 83 [(false, [.int .i64 p0])] [(false, [.ro (.int .i64 r)])] := by
  unfold m_spec_l28Back at h
  refine scalls_n (N := 8) (vars := [.tmp 2]) Tryz.func83 rfl rfl rfl (by decide +kernel) (Nat.le_of_ble_eq_true rfl) fun base wd => ?_
  refine sq ?_
  apply SW_run
  · simp +decide only [E, reduceIte, Nat.reduceAdd, Nat.reduceMul, L]
    exact Is.mk _
  refine an (sq (sq ?_))
  apply SW_run
  · simp +decide only [E, reduceIte, Nat.reduceAdd, Nat.reduceMul, L]
    exact Is.mk _
  refine an ?_
  rcases bcase (decide (p0 < (-1000000000000))) with b1 | b1
  · replace h := ite_t b1 h
    refine SW_ct (by simp +decide only [F, reduceIte, Nat.reduceAdd, b1]) ?_
    refine sq ?_
    apply SW_run
    · simp +decide only [E, reduceIte, Nat.reduceAdd, Nat.reduceMul, L, b1]
      exact Is.mk _
    refine an (rt ?_)
    cases h
    simp [Ret, b1]
  replace h := ite_f b1 h
  refine SW_cf (by simp +decide only [F, reduceIte, Nat.reduceAdd, b1]) ?_
  refine sk (an (sq ?_))
  apply SW_run
  · simp +decide only [E, reduceIte, Nat.reduceAdd, Nat.reduceMul, L, b1]
    exact Is.mk _
  refine an (rt ?_)
  cases h
  simp [Ret, b1]

set_option maxHeartbeats 4000000 in
theorem c_spec_IsEvictable (p0 : M.Bucket) (p1 : List M.Page) (p2 : Int) (r : Bool) (h : m_spec_IsEvictable p0 p1 p2 = some r) : SCalls Tryz.prog 29 [(true, M.Bucket.en p0), (false, [.sl (List.map M.Page.en p1)]), (false, [.int .i64 p2])] [(false, [.ro (.bool r)])] := by
  unfold m_spec_IsEvictable at h
  simp only [M.Bucket.en]
  refine scalls_n (N := 51) (vars := [.tmp 6]) Tryz.func29 rfl rfl rfl (by decide +kernel) (Nat.le_of_ble_eq_true rfl) fun base wd => ?_
  refine sq ?_
  apply SW_run
  · simp +decide only [E, reduceIte, Nat.reduceAdd, Nat.reduceMul, L]
    exact Is.mk _
  refine an (sq (sq ?_))
  apply SW_run
  · simp +decide only [E, reduceIte, Nat.reduceAdd, Nat.reduceMul, L]
    exact Is.mk _
  refine an (bk ?_)
  refine SW_loop (fun m s => ∃ v7 : Int, s.t 1 = .v false [.dat (.sl (List.map M.Page.en p1))] ∧ s.t 2 = .v false [.dat (.int .i64 p2)] ∧ s.t 3 = .v false [.bp 3 1 0] ∧ s.t 7 = .v false [.dat (.int .i64 v7)] ∧ s.h 3 = (1, .box 69 [.dat (.str p0.Site), .dat (.str p0.Top), .dat (.str p0.Registration.Site), .dat (.int .i64 p0.Registration.Installing), .dat (.int .i64 p0.Registration.Waiting), .dat (.int .i64 p0.Registration.Active), .dat (.sl (List.map M.Cache.en p0.Caches.Caches)), .dat (.str p0.Disk.Base.Name), .dat (.int .i64 p0.Disk.Base.Version), .dat (.sl (List.map M.Store.en p0.Disk.Base.Stores)), .dat (.sl (List.map M.IndexDef.en p0.Disk.Base.Unique)), .dat (.sl (List.map enB p0.Disk.Log)), .dat (.int .i64 p0.Disk.Count), .dat (.str p0.Replica.Base.Name), .dat (.sl (List.map M.Item.en p0.Replica.Base.Items)), .dat (.int .i64 p0.Replica.Base.Auto), .dat (.int .i64 p0.Replica.Seen), .dat (.int .i64 p0.Replica.Sync.Outbox.Device), .dat (.int .i64 p0.Replica.Sync.Outbox.Next), .dat (.sl (List.map M.Write.en p0.Replica.Sync.Outbox.Writes)), .dat (.int .i64 p0.Replica.Sync.Tries), .dat (.int .i64 p0.Replica.Sync.WaitUntil), .dat (.int .i64 p0.LastUsed), .dat (.bool p0.Persistent)]) ∧ m_spec_IsEvictable_L1 p0 p1 p2 m v7 = some r) fuel ?_ ?_
  · refine ⟨0, ?_, ?_, ?_, ?_, ?_, h⟩
    all_goals simp +decide only [F, reduceIte, Nat.reduceAdd]
  rintro mL1 s1 ⟨v7, f2, f3, f4, f5, f6, h⟩
  rcases mL1 with _ | mL1
  · exact absurd h (by simp [m_spec_IsEvictable_L1])
  simp only [m_spec_IsEvictable_L1] at h
  refine sq (sq ?_)
  apply SW_run
  · simp +decide only [E, reduceIte, Nat.reduceAdd, Nat.reduceMul, L, ti89, f2, f3, f4, f5, f6]
    exact Is.mk _
  refine an ?_
  rcases bcas (decide (v7 < (List.length p1 : Int))) with b7 | b7
  · replace h := ite_f b7 h
    refine SW_cf (by simp +decide only [F, reduceIte, Nat.reduceAdd, f2, f3, f4, f5, f6, b7]) ?_
    refine xt (aft_cx (aft_ix (aft_x (an (sq ?_)))))
    obtain ⟨x15, h16, h⟩ := bind_some h
    rcases bcas (decide (p0.LastUsed < x15)) with b17 | b17
    · replace h := ite_f b17 h
      apply SW_runD mixed
      · simp +decide only [E, reduceIte, Nat.reduceAdd, Nat.reduceMul, L, ti3, ti69, f2, f3, f4, f5, f6, b7, b17]
        refine ⟨_, c_spec_l28Back p2 x15 h16, ?_⟩
        try simp +decide only [E, reduceIte, Nat.reduceAdd, Nat.reduceMul, L, ti3, ti69, f2, f3, f4, f5, f6, b7, b17]
        exact ⟨.mk (by decide +kernel), Is.mk _⟩
      refine an (rt ?_)
      cases h
      simp [Ret, f2, f3, f4, f5, f6, b7, b17]
    replace h := ite_t b17 h
    rcases bcas (!p0.Persistent) with b18 | b18
    · replace h := ite_f b18 h
      apply SW_runD mixed
      · simp +decide only [E, reduceIte, Nat.reduceAdd, Nat.reduceMul, L, ti3, ti4, ti69, f2, f3, f4, f5, f6, b7, b17, b18]
        refine ⟨_, c_spec_l28Back p2 x15 h16, ?_⟩
        try simp +decide only [E, reduceIte, Nat.reduceAdd, Nat.reduceMul, L, ti3, ti4, ti69, f2, f3, f4, f5, f6, b7, b17, b18]
        exact ⟨.mk (by decide +kernel), Is.mk _⟩
      refine an (rt ?_)
      cases h
      simp [Ret, f2, f3, f4, f5, f6, b7, b17, b18]
    replace h := ite_t b18 h
    apply SW_runD mixed
    · simp +decide only [E, reduceIte, Nat.reduceAdd, Nat.reduceMul, L, ti3, ti4, ti61, ti63, ti65, ti67, ti69, f2, f3, f4, f5, f6, b7, b17, b18]
      refine ⟨_, c_spec_l28Back p2 x15 h16, ?_⟩
      try simp +decide only [E, reduceIte, Nat.reduceAdd, Nat.reduceMul, L, ti3, ti4, ti61, ti63, ti65, ti67, ti69, f2, f3, f4, f5, f6, b7, b17, b18]
      exact ⟨.mk (by decide +kernel), Is.mk _⟩
    refine an (rt ?_)
    cases h
    simp [Ret, f2, f3, f4, f5, f6, b7, b17, b18]
  replace h := ite_t b7 h
  refine SW_ct (by simp +decide only [F, reduceIte, Nat.reduceAdd, f2, f3, f4, f5, f6, b7]) ?_
  refine sk (an (sq (bk (sq ?_))))
  obtain ⟨x8, h9, h⟩ := bind_some h
  obtain ⟨q10, q11, q12⟩ := idx_some h9
  rcases bcas (x8.Site.toList == p0.Site.toList) with b13 | b13
  · replace h := ite_f b13 h
    apply SW_runD mixed
    · simp +decide only [E, reduceIte, Nat.reduceAdd, Nat.reduceMul, L, ti9, ti69, ti89, ti145, M.Page.en, f2, f3, f4, f5, f6, b7, q10, q11, q12, b13]
      exact ⟨.mk (by decide +kernel), Is.mk _⟩
    refine an ?_
    refine SW_cf (by simp +decide only [F, reduceIte, Nat.reduceAdd, f2, f3, f4, f5, f6, b7, q10, q11, q12, b13]) ?_
    refine sk (ab (an ?_))
    apply SW_run
    · simp +decide only [E, reduceIte, Nat.reduceAdd, Nat.reduceMul, L, f2, f3, f4, f5, f6, b7, q10, q11, q12, b13]
      exact Is.mk _
    refine aft_i ⟨mL1, by omega, (IntKind.i64.wrap (v7 + 1)), ?_, ?_, ?_, ?_, ?_, h⟩
    all_goals simp +decide only [F, reduceIte, Nat.reduceAdd, f2, f3, f4, f5, f6, b7, q10, q11, q12, b13]
  replace h := ite_t b13 h
  apply SW_runD mixed
  · simp +decide only [E, reduceIte, Nat.reduceAdd, Nat.reduceMul, L, ti9, ti69, ti89, ti145, M.Page.en, f2, f3, f4, f5, f6, b7, q10, q11, q12, b13]
    exact ⟨.mk (by decide +kernel), Is.mk _⟩
  refine an ?_
  rcases bcase (x8.Top.toList == p0.Top.toList) with b14 | b14
  · replace h := ite_t b14 h
    refine SW_ct (by simp +decide only [F, reduceIte, Nat.reduceAdd, f2, f3, f4, f5, f6, b7, q10, q11, q12, b13, b14]) ?_
    refine sq ?_
    apply SW_run
    · simp +decide only [E, reduceIte, Nat.reduceAdd, Nat.reduceMul, L, f2, f3, f4, f5, f6, b7, q10, q11, q12, b13, b14]
      exact Is.mk _
    refine an (rt ?_)
    cases h
    simp [Ret, f2, f3, f4, f5, f6, b7, q10, q11, q12, b13, b14]
  replace h := ite_f b14 h
  refine SW_cf (by simp +decide only [F, reduceIte, Nat.reduceAdd, f2, f3, f4, f5, f6, b7, q10, q11, q12, b13, b14]) ?_
  refine sk (ab (an ?_))
  apply SW_run
  · simp +decide only [E, reduceIte, Nat.reduceAdd, Nat.reduceMul, L, f2, f3, f4, f5, f6, b7, q10, q11, q12, b13, b14]
    exact Is.mk _
  refine aft_i ⟨mL1, by omega, (IntKind.i64.wrap (v7 + 1)), ?_, ?_, ?_, ?_, ?_, h⟩
  all_goals simp +decide only [F, reduceIte, Nat.reduceAdd, f2, f3, f4, f5, f6, b7, q10, q11, q12, b13, b14]

end Go.Proofs.YtgpiencmneiblaaGreat.gen
