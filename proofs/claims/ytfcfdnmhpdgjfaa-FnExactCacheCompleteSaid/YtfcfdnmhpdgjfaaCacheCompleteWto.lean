/-
  Helper text: walks: each function's contract out of its model. No conditions beyond those of each contract.
-/
import Derived.Test.YtfcfdnmhpdgjfaaCacheCompleteTi
namespace Go.Proofs.Ytfcfdnmhpdgjfaa.gen
open Go Go.Sh
set_option linter.unusedVariables false
set_option linter.unusedSimpArgs false
set_option maxHeartbeats 4000000 in
theorem c_laws_toByteS (p0 : List Int) (r : (List Int)) (h : m_laws_toByteS p0 = some r) : SCalls Try.prog 159 [(false, [.sl (List.map enB p0)])] [(false, [.own 5 1 (List.map enB r)])] := by
  unfold m_laws_toByteS at h
  refine scalls_n (N := 22) (vars := [.tmp 2]) Try.func159 rfl rfl rfl (by decide +kernel) (Nat.le_of_ble_eq_true rfl) fun base wd => ?_
  refine sq ?_
  apply SW_run
  · simp +decide only [E, reduceIte, Nat.reduceAdd, Nat.reduceMul, Bool.not_true, Bool.not_false, L]
    exact Is.mk _
  refine an (sq ?_)
  obtain ⟨x1, h2, h⟩ := bind_some h
  apply SW_run
  · simp +decide only [E, reduceIte, Nat.reduceAdd, Nat.reduceMul, Bool.not_true, Bool.not_false, L, ti5, ti57, enB]
    refine ⟨mkL_must h2, ?_⟩
    try simp +decide only [E, reduceIte, Nat.reduceAdd, Nat.reduceMul, Bool.not_true, Bool.not_false, L, ti5, ti57, enB]
    exact Is.mk _
  refine an (sq (sq ?_))
  refine SW_cut (J := fun s => s.t 0 = .v false [.dat (.sl (List.map enB p0))] ∧ s.t 3 = .v false [.row 100007 1] ∧ s.h 100007 = (1, .row 5 1 (List.map enB (List.replicate (List.length p0 : Int).toNat 0)) true) ∧ True) ?_ ?_
  · refine ⟨?_, ?_, ?_, trivial⟩ <;> (try simp +decide only [F, reduceIte, Nat.reduceAdd, Bool.not_true, Bool.not_false, enB])
  rintro s3 ⟨f4, f5, f6, _⟩
  apply SW_run
  · simp +decide only [E, reduceIte, Nat.reduceAdd, Nat.reduceMul, Bool.not_true, Bool.not_false, L, f4, f5, f6]
    exact Is.mk _
  refine an (bk ?_)
  refine SW_loop (fun m s => ∃ v4 : Int, ∃ r7 : List Int, s.t 0 = .v false [.dat (.sl (List.map enB p0))] ∧ s.t 3 = .v false [.row 100007 1] ∧ s.t 4 = .v false [.dat (.int .i64 v4)] ∧ s.h 100007 = (1, .row 5 1 (List.map enB r7) true) ∧ m_laws_toByteS_L1 p0 m v4 r7 = some r) fuel ?_ ?_
  · refine ⟨0, (List.replicate (List.length p0 : Int).toNat 0), ?_, ?_, ?_, ?_, h⟩
    all_goals simp +decide only [F, reduceIte, Nat.reduceAdd, Bool.not_true, Bool.not_false, enB, f4, f5, f6]
  rintro mL1 s7 ⟨v4, r7, f8, f9, f10, f11, h⟩
  rcases mL1 with _ | mL1
  · exact absurd h (by simp [m_laws_toByteS_L1])
  simp only [m_laws_toByteS_L1] at h
  refine sq (sq ?_)
  apply SW_run
  · simp +decide only [E, reduceIte, Nat.reduceAdd, Nat.reduceMul, Bool.not_true, Bool.not_false, L, ti57, f8, f9, f10, f11]
    exact Is.mk _
  refine an ?_
  rcases bcas (decide (v4 < (List.length p0 : Int))) with b12 | b12
  · replace h := ite_f b12 h
    refine SW_cf (by simp +decide only [F, reduceIte, Nat.reduceAdd, Bool.not_true, Bool.not_false, f8, f9, f10, f11, b12]) ?_
    refine xt (aft_cx (aft_ix (aft_x (an (sq ?_)))))
    apply SW_run
    · simp +decide only [E, reduceIte, Nat.reduceAdd, Nat.reduceMul, Bool.not_true, Bool.not_false, L, f8, f9, f10, f11, b12]
      exact Is.mk _
    refine an (rt ?_)
    cases h
    simp [Ret, enB, f8, f9, f10, f11, b12]
  replace h := ite_t b12 h
  refine SW_ct (by simp +decide only [F, reduceIte, Nat.reduceAdd, Bool.not_true, Bool.not_false, f8, f9, f10, f11, b12]) ?_
  refine sk (an (sq (bk ?_)))
  obtain ⟨x13, h14, h⟩ := bind_some h
  obtain ⟨q15, q16, q17⟩ := idx_some h14
  obtain ⟨x18, h19, h⟩ := bind_some h
  obtain ⟨q20, q21, q22⟩ := idx_some h19
  apply SW_run
  · simp +decide only [E, reduceIte, Nat.reduceAdd, Nat.reduceMul, Bool.not_true, Bool.not_false, L, ti5, ti57, enB, f8, f9, f10, f11, b12, q15, q16, q17, q20, q21, q22]
    exact Is.mk _
  refine ab (an ?_)
  refine SW_cut (J := fun s => s.t 0 = .v false [.dat (.sl (List.map enB p0))] ∧ s.t 3 = .v false [.row 100007 1] ∧ s.t 4 = .v false [.dat (.int .i64 v4)] ∧ s.h 100007 = (1, .row 5 1 (List.map enB (List.set r7 v4.toNat x13)) true) ∧ True) ?_ ?_
  · refine ⟨?_, ?_, ?_, ?_, trivial⟩ <;> (try simp +decide only [F, reduceIte, Nat.reduceAdd, Bool.not_true, Bool.not_false, enB, f8, f9, f10, f11, b12, q15, q16, q17, q20, q21, q22])
  rintro s23 ⟨f24, f25, f26, f27, _⟩
  apply SW_run
  · simp +decide only [E, reduceIte, Nat.reduceAdd, Nat.reduceMul, Bool.not_true, Bool.not_false, L, b12, q15, q16, q17, q20, q21, q22, f24, f25, f26, f27]
    exact Is.mk _
  refine aft_i ⟨mL1, by omega, (IntKind.i64.wrap (v4 + 1)), (List.set r7 v4.toNat x13), ?_, ?_, ?_, ?_, h⟩
  all_goals simp +decide only [F, reduceIte, Nat.reduceAdd, Bool.not_true, Bool.not_false, enB, b12, q15, q16, q17, q20, q21, q22, f24, f25, f26, f27]

set_option maxHeartbeats 4000000 in
theorem c_laws_toResponse (p0 : M.Response) (r : M.Response) (h : m_laws_toResponse p0 = some r) : SCalls Try.prog 154 [(true, M.Response.en p0)] [(true, [.ro (.int .i64 r.Type_), .ro (.int .i64 r.Status), .ro (.int .i64 r.Version), .own 5 1 (List.map enB r.Body), .ro (.bool r.Shares)])] := by
  unfold m_laws_toResponse at h
  simp only [M.Response.en]
  refine scalls_n (N := 21) (vars := [.cell 2 117]) Try.func154 rfl rfl rfl (by decide +kernel) (Nat.le_of_ble_eq_true rfl) fun base wd => ?_
  refine sq ?_
  apply SW_run
  · simp +decide only [E, reduceIte, Nat.reduceAdd, Nat.reduceMul, Bool.not_true, Bool.not_false, L, ti117]
    exact Is.mk _
  refine an (sq ?_)
  apply SW_run
  · simp +decide only [E, reduceIte, Nat.reduceAdd, Nat.reduceMul, Bool.not_true, Bool.not_false, L, ti117]
    exact Is.mk _
  refine an (sq ?_)
  apply SW_run
  · simp +decide only [E, reduceIte, Nat.reduceAdd, Nat.reduceMul, Bool.not_true, Bool.not_false, L, ti3, ti117, ti194]
    exact Is.mk _
  refine an (sq ?_)
  apply SW_run
  · simp +decide only [E, reduceIte, Nat.reduceAdd, Nat.reduceMul, Bool.not_true, Bool.not_false, L, ti3, ti117, ti194]
    exact Is.mk _
  refine an (sq ?_)
  apply SW_run
  · simp +decide only [E, reduceIte, Nat.reduceAdd, Nat.reduceMul, Bool.not_true, Bool.not_false, L, ti3, ti117, ti194]
    exact Is.mk _
  refine an (sq ?_)
  obtain ⟨x1, h2, h⟩ := bind_some h
  apply SW_run
  · simp +decide only [E, reduceIte, Nat.reduceAdd, Nat.reduceMul, Bool.not_true, Bool.not_false, L, ti57, ti117, ti194]
    refine ⟨_, c_laws_toByteS p0.Body x1 h2, ?_⟩
    try simp +decide only [E, reduceIte, Nat.reduceAdd, Nat.reduceMul, Bool.not_true, Bool.not_false, L, ti57, ti117, ti194]
    exact Is.mk _
  refine an (sq ?_)
  apply SW_run
  · simp +decide only [E, reduceIte, Nat.reduceAdd, Nat.reduceMul, Bool.not_true, Bool.not_false, L, ti4, ti117, ti194]
    exact Is.mk _
  refine an (sq ?_)
  apply SW_run
  · simp +decide only [E, reduceIte, Nat.reduceAdd, Nat.reduceMul, Bool.not_true, Bool.not_false, L, ti117]
    exact Is.mk _
  refine an (rt ?_)
  cases h
  simp [Ret, ti117, enB]

set_option maxHeartbeats 4000000 in
theorem c_laws_toCached (p0 : M.Cached) (r : M.Cached) (h : m_laws_toCached p0 = some r) : SCalls Try.prog 144 [(true, M.Cached.en p0)] [(true, [.ro (.str r.Site), .ro (.str r.Path), .ro (.int .i64 r.Response.Type_), .ro (.int .i64 r.Response.Status), .ro (.int .i64 r.Response.Version), .own 5 1 (List.map enB r.Response.Body), .ro (.bool r.Response.Shares)])] := by
  unfold m_laws_toCached at h
  simp only [M.Cached.en]
  refine scalls_n (N := 15) (vars := [.cell 2 161]) Try.func144 rfl rfl rfl (by decide +kernel) (Nat.le_of_ble_eq_true rfl) fun base wd => ?_
  refine sq ?_
  apply SW_run
  · simp +decide only [E, reduceIte, Nat.reduceAdd, Nat.reduceMul, Bool.not_true, Bool.not_false, L, ti161]
    exact Is.mk _
  refine an (sq ?_)
  apply SW_run
  · simp +decide only [E, reduceIte, Nat.reduceAdd, Nat.reduceMul, Bool.not_true, Bool.not_false, L, ti161]
    exact Is.mk _
  refine an (sq ?_)
  apply SW_run
  · simp +decide only [E, reduceIte, Nat.reduceAdd, Nat.reduceMul, Bool.not_true, Bool.not_false, L, ti9, ti161, ti196]
    exact Is.mk _
  refine an (sq ?_)
  apply SW_run
  · simp +decide only [E, reduceIte, Nat.reduceAdd, Nat.reduceMul, Bool.not_true, Bool.not_false, L, ti9, ti161, ti196]
    exact Is.mk _
  refine an (sq ?_)
  obtain ⟨x1, h2, h⟩ := bind_some h
  apply SW_run
  · simp +decide only [E, reduceIte, Nat.reduceAdd, Nat.reduceMul, Bool.not_true, Bool.not_false, L, ti117, ti161, ti194, ti196]
    refine ⟨_, c_laws_toResponse p0.Response x1 h2, ?_⟩
    try simp +decide only [E, reduceIte, Nat.reduceAdd, Nat.reduceMul, Bool.not_true, Bool.not_false, L, ti117, ti161, ti194, ti196]
    exact Is.mk _
  refine an (sq ?_)
  apply SW_run
  · simp +decide only [E, reduceIte, Nat.reduceAdd, Nat.reduceMul, Bool.not_true, Bool.not_false, L, ti161]
    exact Is.mk _
  refine an (rt ?_)
  cases h
  simp [Ret, ti161, enB]

set_option maxHeartbeats 4000000 in
theorem c_laws_toCachedS (p0 : List M.Cached) (r : (List M.Cached)) (h : m_laws_toCachedS p0 = some r) : SCalls Try.prog 131 [(false, [.sl (List.map M.Cached.en p0)])] [(false, [.own 161 7 (List.map M.Cached.en r)])] := by
  unfold m_laws_toCachedS at h
  refine scalls_n (N := 23) (vars := [.tmp 2]) Try.func131 rfl rfl rfl (by decide +kernel) (Nat.le_of_ble_eq_true rfl) fun base wd => ?_
  refine sq ?_
  apply SW_run
  · simp +decide only [E, reduceIte, Nat.reduceAdd, Nat.reduceMul, Bool.not_true, Bool.not_false, L]
    exact Is.mk _
  refine an (sq ?_)
  obtain ⟨x1, h2, h⟩ := bind_some h
  apply SW_run
  · simp +decide only [E, reduceIte, Nat.reduceAdd, Nat.reduceMul, Bool.not_true, Bool.not_false, L, ti151, ti156, ti161, M.Cached.en]
    refine ⟨mkL_must h2, ?_⟩
    try simp +decide only [E, reduceIte, Nat.reduceAdd, Nat.reduceMul, Bool.not_true, Bool.not_false, L, ti151, ti156, ti161, M.Cached.en]
    exact Is.mk _
  refine an (sq (sq ?_))
  refine SW_cut (J := fun s => s.t 0 = .v false [.dat (.sl (List.map M.Cached.en p0))] ∧ s.t 3 = .v false [.row 100007 1] ∧ s.h 100007 = (1, .row 161 7 (List.map M.Cached.en (List.replicate (List.length p0 : Int).toNat (⟨(⟨#[]⟩ : ByteArray), (⟨#[]⟩ : ByteArray), (⟨0, 0, 0, ([] : List Int), false⟩ : M.Response)⟩ : M.Cached))) true) ∧ True) ?_ ?_
  · refine ⟨?_, ?_, ?_, trivial⟩ <;> (try simp +decide only [F, reduceIte, Nat.reduceAdd, Bool.not_true, Bool.not_false, M.Cached.en])
  rintro s3 ⟨f4, f5, f6, _⟩
  apply SW_run
  · simp +decide only [E, reduceIte, Nat.reduceAdd, Nat.reduceMul, Bool.not_true, Bool.not_false, L, f4, f5, f6]
    exact Is.mk _
  refine an (bk ?_)
  refine SW_loop (fun m s => ∃ v4 : Int, ∃ r7 : List M.Cached, s.t 0 = .v false [.dat (.sl (List.map M.Cached.en p0))] ∧ s.t 3 = .v false [.row 100007 1] ∧ s.t 4 = .v false [.dat (.int .i64 v4)] ∧ s.h 100007 = (1, .row 161 7 (List.map M.Cached.en r7) true) ∧ m_laws_toCachedS_L1 p0 m v4 r7 = some r) fuel ?_ ?_
  · refine ⟨0, (List.replicate (List.length p0 : Int).toNat (⟨(⟨#[]⟩ : ByteArray), (⟨#[]⟩ : ByteArray), (⟨0, 0, 0, ([] : List Int), false⟩ : M.Response)⟩ : M.Cached)), ?_, ?_, ?_, ?_, h⟩
    all_goals simp +decide only [F, reduceIte, Nat.reduceAdd, Bool.not_true, Bool.not_false, M.Cached.en, f4, f5, f6]
  rintro mL1 s7 ⟨v4, r7, f8, f9, f10, f11, h⟩
  rcases mL1 with _ | mL1
  · exact absurd h (by simp [m_laws_toCachedS_L1])
  simp only [m_laws_toCachedS_L1] at h
  refine sq (sq ?_)
  apply SW_run
  · simp +decide only [E, reduceIte, Nat.reduceAdd, Nat.reduceMul, Bool.not_true, Bool.not_false, L, ti151, f8, f9, f10, f11]
    exact Is.mk _
  refine an ?_
  rcases bcas (decide (v4 < (List.length p0 : Int))) with b12 | b12
  · replace h := ite_f b12 h
    refine SW_cf (by simp +decide only [F, reduceIte, Nat.reduceAdd, Bool.not_true, Bool.not_false, f8, f9, f10, f11, b12]) ?_
    refine xt (aft_cx (aft_ix (aft_x (an (sq ?_)))))
    apply SW_run
    · simp +decide only [E, reduceIte, Nat.reduceAdd, Nat.reduceMul, Bool.not_true, Bool.not_false, L, f8, f9, f10, f11, b12]
      exact Is.mk _
    refine an (rt ?_)
    cases h
    simp [Ret, M.Cached.en, f8, f9, f10, f11, b12]
  replace h := ite_t b12 h
  refine SW_ct (by simp +decide only [F, reduceIte, Nat.reduceAdd, Bool.not_true, Bool.not_false, f8, f9, f10, f11, b12]) ?_
  refine sk (an (sq (bk ?_)))
  obtain ⟨x13, h14, h⟩ := bind_some h
  obtain ⟨q15, q16, q17⟩ := idx_some h14
  obtain ⟨x18, h19, h⟩ := bind_some h
  obtain ⟨x20, h21, h⟩ := bind_some h
  obtain ⟨q22, q23, q24⟩ := idx_some h21
  apply SW_run
  · simp +decide only [E, reduceIte, Nat.reduceAdd, Nat.reduceMul, Bool.not_true, Bool.not_false, L, ti151, ti156, ti161, ti196, M.Cached.en, f8, f9, f10, f11, b12, q15, q16, q17, q22, q23, q24]
    refine ⟨_, c_laws_toCached x13 x18 h19, ?_⟩
    try simp +decide only [E, reduceIte, Nat.reduceAdd, Nat.reduceMul, Bool.not_true, Bool.not_false, L, ti151, ti156, ti161, ti196, M.Cached.en, f8, f9, f10, f11, b12, q15, q16, q17, q22, q23, q24]
    exact Is.mk _
  refine ab (an ?_)
  refine SW_cut (J := fun s => s.t 0 = .v false [.dat (.sl (List.map M.Cached.en p0))] ∧ s.t 3 = .v false [.row 100007 1] ∧ s.t 4 = .v false [.dat (.int .i64 v4)] ∧ s.h 100007 = (1, .row 161 7 (List.map M.Cached.en (List.set r7 v4.toNat x18)) true) ∧ True) ?_ ?_
  · refine ⟨?_, ?_, ?_, ?_, trivial⟩ <;> (try simp +decide only [F, reduceIte, Nat.reduceAdd, Bool.not_true, Bool.not_false, M.Cached.en, f8, f9, f10, f11, b12, q15, q16, q17, q22, q23, q24])
  rintro s25 ⟨f26, f27, f28, f29, _⟩
  apply SW_run
  · simp +decide only [E, reduceIte, Nat.reduceAdd, Nat.reduceMul, Bool.not_true, Bool.not_false, L, b12, q15, q16, q17, q22, q23, q24, f26, f27, f28, f29]
    exact Is.mk _
  refine aft_i ⟨mL1, by omega, (IntKind.i64.wrap (v4 + 1)), (List.set r7 v4.toNat x18), ?_, ?_, ?_, ?_, h⟩
  all_goals simp +decide only [F, reduceIte, Nat.reduceAdd, Bool.not_true, Bool.not_false, M.Cached.en, b12, q15, q16, q17, q22, q23, q24, f26, f27, f28, f29]

set_option maxHeartbeats 4000000 in
theorem c_laws_toCache (p0 : M.Cache) (r : M.Cache) (h : m_laws_toCache p0 = some r) : SCalls Try.prog 108 [(true, M.Cache.en p0)] [(true, [.ro (.int .i64 r.Version), .own 161 7 (List.map M.Cached.en r.Entries)])] := by
  unfold m_laws_toCache at h
  simp only [M.Cache.en]
  refine scalls_n (N := 12) (vars := [.cell 2 158]) Try.func108 rfl rfl rfl (by decide +kernel) (Nat.le_of_ble_eq_true rfl) fun base wd => ?_
  refine sq ?_
  apply SW_run
  · simp +decide only [E, reduceIte, Nat.reduceAdd, Nat.reduceMul, Bool.not_true, Bool.not_false, L, ti158]
    exact Is.mk _
  refine an (sq ?_)
  apply SW_run
  · simp +decide only [E, reduceIte, Nat.reduceAdd, Nat.reduceMul, Bool.not_true, Bool.not_false, L, ti158]
    exact Is.mk _
  refine an (sq ?_)
  apply SW_run
  · simp +decide only [E, reduceIte, Nat.reduceAdd, Nat.reduceMul, Bool.not_true, Bool.not_false, L, ti3, ti153, ti158]
    exact Is.mk _
  refine an (sq ?_)
  obtain ⟨x1, h2, h⟩ := bind_some h
  apply SW_run
  · simp +decide only [E, reduceIte, Nat.reduceAdd, Nat.reduceMul, Bool.not_true, Bool.not_false, L, ti151, ti153, ti156, ti158]
    refine ⟨_, c_laws_toCachedS p0.Entries x1 h2, ?_⟩
    try simp +decide only [E, reduceIte, Nat.reduceAdd, Nat.reduceMul, Bool.not_true, Bool.not_false, L, ti151, ti153, ti156, ti158]
    exact Is.mk _
  refine an (sq ?_)
  apply SW_run
  · simp +decide only [E, reduceIte, Nat.reduceAdd, Nat.reduceMul, Bool.not_true, Bool.not_false, L, ti158]
    exact Is.mk _
  refine an (rt ?_)
  cases h
  simp [Ret, ti158, M.Cached.en]

set_option maxHeartbeats 4000000 in
theorem c_laws_toCacheS (p0 : List M.Cache) (r : (List M.Cache)) (h : m_laws_toCacheS p0 = some r) : SCalls Try.prog 76 [(false, [.sl (List.map M.Cache.en p0)])] [(false, [.own 158 2 (List.map M.Cache.en r)])] := by
  unfold m_laws_toCacheS at h
  refine scalls_n (N := 23) (vars := [.tmp 2]) Try.func76 rfl rfl rfl (by decide +kernel) (Nat.le_of_ble_eq_true rfl) fun base wd => ?_
  refine sq ?_
  apply SW_run
  · simp +decide only [E, reduceIte, Nat.reduceAdd, Nat.reduceMul, Bool.not_true, Bool.not_false, L]
    exact Is.mk _
  refine an (sq ?_)
  obtain ⟨x1, h2, h⟩ := bind_some h
  apply SW_run
  · simp +decide only [E, reduceIte, Nat.reduceAdd, Nat.reduceMul, Bool.not_true, Bool.not_false, L, ti66, ti75, ti158, M.Cache.en]
    refine ⟨mkL_must h2, ?_⟩
    try simp +decide only [E, reduceIte, Nat.reduceAdd, Nat.reduceMul, Bool.not_true, Bool.not_false, L, ti66, ti75, ti158, M.Cache.en]
    exact Is.mk _
  refine an (sq (sq ?_))
  refine SW_cut (J := fun s => s.t 0 = .v false [.dat (.sl (List.map M.Cache.en p0))] ∧ s.t 3 = .v false [.row 100007 1] ∧ s.h 100007 = (1, .row 158 2 (List.map M.Cache.en (List.replicate (List.length p0 : Int).toNat (⟨0, ([] : List M.Cached)⟩ : M.Cache))) true) ∧ True) ?_ ?_
  · refine ⟨?_, ?_, ?_, trivial⟩ <;> (try simp +decide only [F, reduceIte, Nat.reduceAdd, Bool.not_true, Bool.not_false, M.Cache.en])
  rintro s3 ⟨f4, f5, f6, _⟩
  apply SW_run
  · simp +decide only [E, reduceIte, Nat.reduceAdd, Nat.reduceMul, Bool.not_true, Bool.not_false, L, f4, f5, f6]
    exact Is.mk _
  refine an (bk ?_)
  refine SW_loop (fun m s => ∃ v4 : Int, ∃ r7 : List M.Cache, s.t 0 = .v false [.dat (.sl (List.map M.Cache.en p0))] ∧ s.t 3 = .v false [.row 100007 1] ∧ s.t 4 = .v false [.dat (.int .i64 v4)] ∧ s.h 100007 = (1, .row 158 2 (List.map M.Cache.en r7) true) ∧ m_laws_toCacheS_L1 p0 m v4 r7 = some r) fuel ?_ ?_
  · refine ⟨0, (List.replicate (List.length p0 : Int).toNat (⟨0, ([] : List M.Cached)⟩ : M.Cache)), ?_, ?_, ?_, ?_, h⟩
    all_goals simp +decide only [F, reduceIte, Nat.reduceAdd, Bool.not_true, Bool.not_false, M.Cache.en, f4, f5, f6]
  rintro mL1 s7 ⟨v4, r7, f8, f9, f10, f11, h⟩
  rcases mL1 with _ | mL1
  · exact absurd h (by simp [m_laws_toCacheS_L1])
  simp only [m_laws_toCacheS_L1] at h
  refine sq (sq ?_)
  apply SW_run
  · simp +decide only [E, reduceIte, Nat.reduceAdd, Nat.reduceMul, Bool.not_true, Bool.not_false, L, ti66, f8, f9, f10, f11]
    exact Is.mk _
  refine an ?_
  rcases bcas (decide (v4 < (List.length p0 : Int))) with b12 | b12
  · replace h := ite_f b12 h
    refine SW_cf (by simp +decide only [F, reduceIte, Nat.reduceAdd, Bool.not_true, Bool.not_false, f8, f9, f10, f11, b12]) ?_
    refine xt (aft_cx (aft_ix (aft_x (an (sq ?_)))))
    apply SW_run
    · simp +decide only [E, reduceIte, Nat.reduceAdd, Nat.reduceMul, Bool.not_true, Bool.not_false, L, f8, f9, f10, f11, b12]
      exact Is.mk _
    refine an (rt ?_)
    cases h
    simp [Ret, M.Cache.en, f8, f9, f10, f11, b12]
  replace h := ite_t b12 h
  refine SW_ct (by simp +decide only [F, reduceIte, Nat.reduceAdd, Bool.not_true, Bool.not_false, f8, f9, f10, f11, b12]) ?_
  refine sk (an (sq (bk ?_)))
  obtain ⟨x13, h14, h⟩ := bind_some h
  obtain ⟨q15, q16, q17⟩ := idx_some h14
  obtain ⟨x18, h19, h⟩ := bind_some h
  obtain ⟨x20, h21, h⟩ := bind_some h
  obtain ⟨q22, q23, q24⟩ := idx_some h21
  apply SW_run
  · simp +decide only [E, reduceIte, Nat.reduceAdd, Nat.reduceMul, Bool.not_true, Bool.not_false, L, ti66, ti75, ti153, ti158, M.Cache.en, f8, f9, f10, f11, b12, q15, q16, q17, q22, q23, q24]
    refine ⟨_, c_laws_toCache x13 x18 h19, ?_⟩
    try simp +decide only [E, reduceIte, Nat.reduceAdd, Nat.reduceMul, Bool.not_true, Bool.not_false, L, ti66, ti75, ti153, ti158, M.Cache.en, f8, f9, f10, f11, b12, q15, q16, q17, q22, q23, q24]
    exact Is.mk _
  refine ab (an ?_)
  refine SW_cut (J := fun s => s.t 0 = .v false [.dat (.sl (List.map M.Cache.en p0))] ∧ s.t 3 = .v false [.row 100007 1] ∧ s.t 4 = .v false [.dat (.int .i64 v4)] ∧ s.h 100007 = (1, .row 158 2 (List.map M.Cache.en (List.set r7 v4.toNat x18)) true) ∧ True) ?_ ?_
  · refine ⟨?_, ?_, ?_, ?_, trivial⟩ <;> (try simp +decide only [F, reduceIte, Nat.reduceAdd, Bool.not_true, Bool.not_false, M.Cache.en, f8, f9, f10, f11, b12, q15, q16, q17, q22, q23, q24])
  rintro s25 ⟨f26, f27, f28, f29, _⟩
  apply SW_run
  · simp +decide only [E, reduceIte, Nat.reduceAdd, Nat.reduceMul, Bool.not_true, Bool.not_false, L, b12, q15, q16, q17, q22, q23, q24, f26, f27, f28, f29]
    exact Is.mk _
  refine aft_i ⟨mL1, by omega, (IntKind.i64.wrap (v4 + 1)), (List.set r7 v4.toNat x18), ?_, ?_, ?_, ?_, h⟩
  all_goals simp +decide only [F, reduceIte, Nat.reduceAdd, Bool.not_true, Bool.not_false, M.Cache.en, b12, q15, q16, q17, q22, q23, q24, f26, f27, f28, f29]

set_option maxHeartbeats 4000000 in
theorem c_laws_toCacheSet (p0 : M.CacheSet) (r : M.CacheSet) (h : m_laws_toCacheSet p0 = some r) : SCalls Try.prog 33 [(true, M.CacheSet.en p0)] [(true, [.own 158 2 (List.map M.Cache.en r.Caches)])] := by
  unfold m_laws_toCacheSet at h
  simp only [M.CacheSet.en]
  refine scalls_n (N := 9) (vars := [.cell 2 77]) Try.func33 rfl rfl rfl (by decide +kernel) (Nat.le_of_ble_eq_true rfl) fun base wd => ?_
  refine sq ?_
  apply SW_run
  · simp +decide only [E, reduceIte, Nat.reduceAdd, Nat.reduceMul, Bool.not_true, Bool.not_false, L, ti77]
    exact Is.mk _
  refine an (sq ?_)
  apply SW_run
  · simp +decide only [E, reduceIte, Nat.reduceAdd, Nat.reduceMul, Bool.not_true, Bool.not_false, L, ti77]
    exact Is.mk _
  refine an (sq ?_)
  obtain ⟨x1, h2, h⟩ := bind_some h
  apply SW_run
  · simp +decide only [E, reduceIte, Nat.reduceAdd, Nat.reduceMul, Bool.not_true, Bool.not_false, L, ti66, ti68, ti75, ti77]
    refine ⟨_, c_laws_toCacheS p0.Caches x1 h2, ?_⟩
    try simp +decide only [E, reduceIte, Nat.reduceAdd, Nat.reduceMul, Bool.not_true, Bool.not_false, L, ti66, ti68, ti75, ti77]
    exact Is.mk _
  refine an (sq ?_)
  apply SW_run
  · simp +decide only [E, reduceIte, Nat.reduceAdd, Nat.reduceMul, Bool.not_true, Bool.not_false, L, ti77]
    exact Is.mk _
  refine an (rt ?_)
  cases h
  simp [Ret, ti77, M.Cache.en]

set_option maxHeartbeats 4000000 in
theorem c_laws_toStringS (p0 : List ByteArray) (r : (List ByteArray)) (h : m_laws_toStringS p0 = some r) : SCalls Try.prog 77 [(false, [.sl (List.map enS p0)])] [(false, [.own 9 1 (List.map enS r)])] := by
  unfold m_laws_toStringS at h
  refine scalls_n (N := 22) (vars := [.tmp 2]) Try.func77 rfl rfl rfl (by decide +kernel) (Nat.le_of_ble_eq_true rfl) fun base wd => ?_
  refine sq ?_
  apply SW_run
  · simp +decide only [E, reduceIte, Nat.reduceAdd, Nat.reduceMul, Bool.not_true, Bool.not_false, L]
    exact Is.mk _
  refine an (sq ?_)
  obtain ⟨x1, h2, h⟩ := bind_some h
  apply SW_run
  · simp +decide only [E, reduceIte, Nat.reduceAdd, Nat.reduceMul, Bool.not_true, Bool.not_false, L, ti9, ti69, enS]
    refine ⟨mkL_must h2, ?_⟩
    try simp +decide only [E, reduceIte, Nat.reduceAdd, Nat.reduceMul, Bool.not_true, Bool.not_false, L, ti9, ti69, enS]
    exact Is.mk _
  refine an (sq (sq ?_))
  refine SW_cut (J := fun s => s.t 0 = .v false [.dat (.sl (List.map enS p0))] ∧ s.t 3 = .v false [.row 100007 1] ∧ s.h 100007 = (1, .row 9 1 (List.map enS (List.replicate (List.length p0 : Int).toNat (⟨#[]⟩ : ByteArray))) true) ∧ True) ?_ ?_
  · refine ⟨?_, ?_, ?_, trivial⟩ <;> (try simp +decide only [F, reduceIte, Nat.reduceAdd, Bool.not_true, Bool.not_false, enS])
  rintro s3 ⟨f4, f5, f6, _⟩
  apply SW_run
  · simp +decide only [E, reduceIte, Nat.reduceAdd, Nat.reduceMul, Bool.not_true, Bool.not_false, L, f4, f5, f6]
    exact Is.mk _
  refine an (bk ?_)
  refine SW_loop (fun m s => ∃ v4 : Int, ∃ r7 : List ByteArray, s.t 0 = .v false [.dat (.sl (List.map enS p0))] ∧ s.t 3 = .v false [.row 100007 1] ∧ s.t 4 = .v false [.dat (.int .i64 v4)] ∧ s.h 100007 = (1, .row 9 1 (List.map enS r7) true) ∧ m_laws_toStringS_L1 p0 m v4 r7 = some r) fuel ?_ ?_
  · refine ⟨0, (List.replicate (List.length p0 : Int).toNat (⟨#[]⟩ : ByteArray)), ?_, ?_, ?_, ?_, h⟩
    all_goals simp +decide only [F, reduceIte, Nat.reduceAdd, Bool.not_true, Bool.not_false, enS, f4, f5, f6]
  rintro mL1 s7 ⟨v4, r7, f8, f9, f10, f11, h⟩
  rcases mL1 with _ | mL1
  · exact absurd h (by simp [m_laws_toStringS_L1])
  simp only [m_laws_toStringS_L1] at h
  refine sq (sq ?_)
  apply SW_run
  · simp +decide only [E, reduceIte, Nat.reduceAdd, Nat.reduceMul, Bool.not_true, Bool.not_false, L, ti69, f8, f9, f10, f11]
    exact Is.mk _
  refine an ?_
  rcases bcas (decide (v4 < (List.length p0 : Int))) with b12 | b12
  · replace h := ite_f b12 h
    refine SW_cf (by simp +decide only [F, reduceIte, Nat.reduceAdd, Bool.not_true, Bool.not_false, f8, f9, f10, f11, b12]) ?_
    refine xt (aft_cx (aft_ix (aft_x (an (sq ?_)))))
    apply SW_run
    · simp +decide only [E, reduceIte, Nat.reduceAdd, Nat.reduceMul, Bool.not_true, Bool.not_false, L, f8, f9, f10, f11, b12]
      exact Is.mk _
    refine an (rt ?_)
    cases h
    simp [Ret, enS, f8, f9, f10, f11, b12]
  replace h := ite_t b12 h
  refine SW_ct (by simp +decide only [F, reduceIte, Nat.reduceAdd, Bool.not_true, Bool.not_false, f8, f9, f10, f11, b12]) ?_
  refine sk (an (sq (bk ?_)))
  obtain ⟨x13, h14, h⟩ := bind_some h
  obtain ⟨q15, q16, q17⟩ := idx_some h14
  obtain ⟨x18, h19, h⟩ := bind_some h
  obtain ⟨q20, q21, q22⟩ := idx_some h19
  apply SW_run
  · simp +decide only [E, reduceIte, Nat.reduceAdd, Nat.reduceMul, Bool.not_true, Bool.not_false, L, ti9, ti69, enS, f8, f9, f10, f11, b12, q15, q16, q17, q20, q21, q22]
    exact Is.mk _
  refine ab (an ?_)
  refine SW_cut (J := fun s => s.t 0 = .v false [.dat (.sl (List.map enS p0))] ∧ s.t 3 = .v false [.row 100007 1] ∧ s.t 4 = .v false [.dat (.int .i64 v4)] ∧ s.h 100007 = (1, .row 9 1 (List.map enS (List.set r7 v4.toNat x13)) true) ∧ True) ?_ ?_
  · refine ⟨?_, ?_, ?_, ?_, trivial⟩ <;> (try simp +decide only [F, reduceIte, Nat.reduceAdd, Bool.not_true, Bool.not_false, enS, f8, f9, f10, f11, b12, q15, q16, q17, q20, q21, q22])
  rintro s23 ⟨f24, f25, f26, f27, _⟩
  apply SW_run
  · simp +decide only [E, reduceIte, Nat.reduceAdd, Nat.reduceMul, Bool.not_true, Bool.not_false, L, b12, q15, q16, q17, q20, q21, q22, f24, f25, f26, f27]
    exact Is.mk _
  refine aft_i ⟨mL1, by omega, (IntKind.i64.wrap (v4 + 1)), (List.set r7 v4.toNat x13), ?_, ?_, ?_, ?_, h⟩
  all_goals simp +decide only [F, reduceIte, Nat.reduceAdd, Bool.not_true, Bool.not_false, enS, b12, q15, q16, q17, q20, q21, q22, f24, f25, f26, f27]

set_option maxHeartbeats 4000000 in
theorem c_laws_toSite (p0 : M.Site) (r : M.Site) (h : m_laws_toSite p0 = some r) : SCalls Try.prog 34 [(true, M.Site.en p0)] [(true, [.ro (.str r.Name), .ro (.int .i64 r.Version), .own 9 1 (List.map enS r.Files), .ro (.bool r.Shared)])] := by
  unfold m_laws_toSite at h
  simp only [M.Site.en]
  refine scalls_n (N := 18) (vars := [.cell 2 79]) Try.func34 rfl rfl rfl (by decide +kernel) (Nat.le_of_ble_eq_true rfl) fun base wd => ?_
  refine sq ?_
  apply SW_run
  · simp +decide only [E, reduceIte, Nat.reduceAdd, Nat.reduceMul, Bool.not_true, Bool.not_false, L, ti79]
    exact Is.mk _
  refine an (sq ?_)
  apply SW_run
  · simp +decide only [E, reduceIte, Nat.reduceAdd, Nat.reduceMul, Bool.not_true, Bool.not_false, L, ti79]
    exact Is.mk _
  refine an (sq ?_)
  apply SW_run
  · simp +decide only [E, reduceIte, Nat.reduceAdd, Nat.reduceMul, Bool.not_true, Bool.not_false, L, ti9, ti71, ti79]
    exact Is.mk _
  refine an (sq ?_)
  apply SW_run
  · simp +decide only [E, reduceIte, Nat.reduceAdd, Nat.reduceMul, Bool.not_true, Bool.not_false, L, ti3, ti71, ti79]
    exact Is.mk _
  refine an (sq ?_)
  obtain ⟨x1, h2, h⟩ := bind_some h
  apply SW_run
  · simp +decide only [E, reduceIte, Nat.reduceAdd, Nat.reduceMul, Bool.not_true, Bool.not_false, L, ti69, ti71, ti79]
    refine ⟨_, c_laws_toStringS p0.Files x1 h2, ?_⟩
    try simp +decide only [E, reduceIte, Nat.reduceAdd, Nat.reduceMul, Bool.not_true, Bool.not_false, L, ti69, ti71, ti79]
    exact Is.mk _
  refine an (sq ?_)
  apply SW_run
  · simp +decide only [E, reduceIte, Nat.reduceAdd, Nat.reduceMul, Bool.not_true, Bool.not_false, L, ti4, ti71, ti79]
    exact Is.mk _
  refine an (sq ?_)
  apply SW_run
  · simp +decide only [E, reduceIte, Nat.reduceAdd, Nat.reduceMul, Bool.not_true, Bool.not_false, L, ti79]
    exact Is.mk _
  refine an (rt ?_)
  cases h
  simp [Ret, ti79, enS]

end Go.Proofs.Ytfcfdnmhpdgjfaa.gen
