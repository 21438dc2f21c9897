/-
  Helper text: walks: each function's contract out of its model. No conditions beyond those of each contract.
-/
import Derived.Test.YtgpiencmneiblaaGreatUsageOfTi
namespace Go.Proofs.YtgpiencmneiblaaGreat.gen
open Go Go.Sh
set_option linter.unusedVariables false
set_option linter.unusedSimpArgs false
set_option maxHeartbeats 4000000 in
theorem c_laws_toRegistration (p0 : M.Registration) (r : M.Registration) (h : m_laws_toRegistration p0 = some r) : SCalls Tryz.prog 63 [(true, M.Registration.en p0)] [(true, [.ro (.str r.Site), .ro (.int .i64 r.Installing), .ro (.int .i64 r.Waiting), .ro (.int .i64 r.Active)])] := by
  unfold m_laws_toRegistration at h
  simp only [M.Registration.en]
  refine scalls_n (N := 17) (vars := [.cell 2 48]) Tryz.func63 rfl rfl rfl (by decide +kernel) (Nat.le_of_ble_eq_true rfl) fun base wd => ?_
  refine sq ?_
  apply SW_run
  · simp +decide only [E, reduceIte, Nat.reduceAdd, Nat.reduceMul, L, ti48]
    exact Is.mk _
  refine an (sq ?_)
  apply SW_run
  · simp +decide only [E, reduceIte, Nat.reduceAdd, Nat.reduceMul, L, ti48]
    exact Is.mk _
  refine an (sq ?_)
  apply SW_run
  · simp +decide only [E, reduceIte, Nat.reduceAdd, Nat.reduceMul, L, ti9, ti23, ti48]
    exact Is.mk _
  refine an (sq ?_)
  apply SW_run
  · simp +decide only [E, reduceIte, Nat.reduceAdd, Nat.reduceMul, L, ti3, ti23, ti48]
    exact Is.mk _
  refine an (sq ?_)
  apply SW_run
  · simp +decide only [E, reduceIte, Nat.reduceAdd, Nat.reduceMul, L, ti3, ti23, ti48]
    exact Is.mk _
  refine an (sq ?_)
  apply SW_run
  · simp +decide only [E, reduceIte, Nat.reduceAdd, Nat.reduceMul, L, ti3, ti23, ti48]
    exact Is.mk _
  refine an (sq ?_)
  apply SW_run
  · simp +decide only [E, reduceIte, Nat.reduceAdd, Nat.reduceMul, L, ti48]
    exact Is.mk _
  refine an (rt ?_)
  cases h
  simp [Ret, ti48]

set_option maxHeartbeats 4000000 in
theorem c_laws_toByteS (p0 : List Int) (r : (List Int)) (h : m_laws_toByteS p0 = some r) : SCalls Tryz.prog 122 [(false, [.sl (List.map enB p0)])] [(false, [.own 5 1 (List.map enB r)])] := by
  unfold m_laws_toByteS at h
  refine scalls_n (N := 22) (vars := [.tmp 2]) Tryz.func122 rfl rfl rfl (by decide +kernel) (Nat.le_of_ble_eq_true rfl) fun base wd => ?_
  refine sq ?_
  apply SW_run
  · simp +decide only [E, reduceIte, Nat.reduceAdd, Nat.reduceMul, L]
    exact Is.mk _
  refine an (sq ?_)
  obtain ⟨x1, h2, h⟩ := bind_some h
  apply SW_run
  · simp +decide only [E, reduceIte, Nat.reduceAdd, Nat.reduceMul, L, ti5, ti31, enB]
    refine ⟨mkL_must h2, ?_⟩
    try simp +decide only [E, reduceIte, Nat.reduceAdd, Nat.reduceMul, L, ti5, ti31, enB]
    exact Is.mk _
  refine an (sq (sq ?_))
  refine SW_cut (J := fun s => s.t 0 = .v false [.dat (.sl (List.map enB p0))] ∧ s.t 3 = .v false [.row 100007 1] ∧ s.h 100007 = (1, .row 5 1 (List.map enB (List.replicate (List.length p0 : Int).toNat 0)) true) ∧ True) ?_ ?_
  · refine ⟨?_, ?_, ?_, trivial⟩ <;> (try simp +decide only [F, reduceIte, Nat.reduceAdd, enB])
  rintro s3 ⟨f4, f5, f6, _⟩
  apply SW_run
  · simp +decide only [E, reduceIte, Nat.reduceAdd, Nat.reduceMul, L, f4, f5, f6]
    exact Is.mk _
  refine an (bk ?_)
  refine SW_loop (fun m s => ∃ v4 : Int, ∃ r7 : List Int, s.t 0 = .v false [.dat (.sl (List.map enB p0))] ∧ s.t 3 = .v false [.row 100007 1] ∧ s.t 4 = .v false [.dat (.int .i64 v4)] ∧ s.h 100007 = (1, .row 5 1 (List.map enB r7) true) ∧ m_laws_toByteS_L1 p0 m v4 r7 = some r) fuel ?_ ?_
  · refine ⟨0, (List.replicate (List.length p0 : Int).toNat 0), ?_, ?_, ?_, ?_, h⟩
    all_goals simp +decide only [F, reduceIte, Nat.reduceAdd, enB, f4, f5, f6]
  rintro mL1 s7 ⟨v4, r7, f8, f9, f10, f11, h⟩
  rcases mL1 with _ | mL1
  · exact absurd h (by simp [m_laws_toByteS_L1])
  simp only [m_laws_toByteS_L1] at h
  refine sq (sq ?_)
  apply SW_run
  · simp +decide only [E, reduceIte, Nat.reduceAdd, Nat.reduceMul, L, ti31, f8, f9, f10, f11]
    exact Is.mk _
  refine an ?_
  rcases bcas (decide (v4 < (List.length p0 : Int))) with b12 | b12
  · replace h := ite_f b12 h
    refine SW_cf (by simp +decide only [F, reduceIte, Nat.reduceAdd, f8, f9, f10, f11, b12]) ?_
    refine xt (aft_cx (aft_ix (aft_x (an (sq ?_)))))
    apply SW_run
    · simp +decide only [E, reduceIte, Nat.reduceAdd, Nat.reduceMul, L, f8, f9, f10, f11, b12]
      exact Is.mk _
    refine an (rt ?_)
    cases h
    simp [Ret, enB, f8, f9, f10, f11, b12]
  replace h := ite_t b12 h
  refine SW_ct (by simp +decide only [F, reduceIte, Nat.reduceAdd, f8, f9, f10, f11, b12]) ?_
  refine sk (an (sq (bk ?_)))
  obtain ⟨x13, h14, h⟩ := bind_some h
  obtain ⟨q15, q16, q17⟩ := idx_some h14
  obtain ⟨x18, h19, h⟩ := bind_some h
  obtain ⟨q20, q21, q22⟩ := idx_some h19
  apply SW_run
  · simp +decide only [E, reduceIte, Nat.reduceAdd, Nat.reduceMul, L, ti5, ti31, enB, f8, f9, f10, f11, b12, q15, q16, q17, q20, q21, q22]
    exact Is.mk _
  refine ab (an ?_)
  refine SW_cut (J := fun s => s.t 0 = .v false [.dat (.sl (List.map enB p0))] ∧ s.t 3 = .v false [.row 100007 1] ∧ s.t 4 = .v false [.dat (.int .i64 v4)] ∧ s.h 100007 = (1, .row 5 1 (List.map enB (List.set r7 v4.toNat x13)) true) ∧ True) ?_ ?_
  · refine ⟨?_, ?_, ?_, ?_, trivial⟩ <;> (try simp +decide only [F, reduceIte, Nat.reduceAdd, enB, f8, f9, f10, f11, b12, q15, q16, q17, q20, q21, q22])
  rintro s23 ⟨f24, f25, f26, f27, _⟩
  apply SW_run
  · simp +decide only [E, reduceIte, Nat.reduceAdd, Nat.reduceMul, L, b12, q15, q16, q17, q20, q21, q22, f24, f25, f26, f27]
    exact Is.mk _
  refine aft_i ⟨mL1, by omega, (IntKind.i64.wrap (v4 + 1)), (List.set r7 v4.toNat x13), ?_, ?_, ?_, ?_, h⟩
  all_goals simp +decide only [F, reduceIte, Nat.reduceAdd, enB, b12, q15, q16, q17, q20, q21, q22, f24, f25, f26, f27]

set_option maxHeartbeats 4000000 in
theorem c_laws_toResponse (p0 : M.Response) (r : M.Response) (h : m_laws_toResponse p0 = some r) : SCalls Tryz.prog 333 [(true, M.Response.en p0)] [(true, [.ro (.int .i64 r.Type_), .ro (.int .i64 r.Status), .ro (.int .i64 r.Version), .own 5 1 (List.map enB r.Body), .ro (.bool r.Shares)])] := by
  unfold m_laws_toResponse at h
  simp only [M.Response.en]
  refine scalls_n (N := 21) (vars := [.cell 2 187]) Tryz.func333 rfl rfl rfl (by decide +kernel) (Nat.le_of_ble_eq_true rfl) fun base wd => ?_
  refine sq ?_
  apply SW_run
  · simp +decide only [E, reduceIte, Nat.reduceAdd, Nat.reduceMul, L, ti187]
    exact Is.mk _
  refine an (sq ?_)
  apply SW_run
  · simp +decide only [E, reduceIte, Nat.reduceAdd, Nat.reduceMul, L, ti187]
    exact Is.mk _
  refine an (sq ?_)
  apply SW_run
  · simp +decide only [E, reduceIte, Nat.reduceAdd, Nat.reduceMul, L, ti3, ti187, ti334]
    exact Is.mk _
  refine an (sq ?_)
  apply SW_run
  · simp +decide only [E, reduceIte, Nat.reduceAdd, Nat.reduceMul, L, ti3, ti187, ti334]
    exact Is.mk _
  refine an (sq ?_)
  apply SW_run
  · simp +decide only [E, reduceIte, Nat.reduceAdd, Nat.reduceMul, L, ti3, ti187, ti334]
    exact Is.mk _
  refine an (sq ?_)
  obtain ⟨x1, h2, h⟩ := bind_some h
  apply SW_run
  · simp +decide only [E, reduceIte, Nat.reduceAdd, Nat.reduceMul, L, ti31, ti187, ti334]
    refine ⟨_, c_laws_toByteS p0.Body x1 h2, ?_⟩
    try simp +decide only [E, reduceIte, Nat.reduceAdd, Nat.reduceMul, L, ti31, ti187, ti334]
    exact Is.mk _
  refine an (sq ?_)
  apply SW_run
  · simp +decide only [E, reduceIte, Nat.reduceAdd, Nat.reduceMul, L, ti4, ti187, ti334]
    exact Is.mk _
  refine an (sq ?_)
  apply SW_run
  · simp +decide only [E, reduceIte, Nat.reduceAdd, Nat.reduceMul, L, ti187]
    exact Is.mk _
  refine an (rt ?_)
  cases h
  simp [Ret, ti187, enB]

set_option maxHeartbeats 4000000 in
theorem c_laws_toCached (p0 : M.Cached) (r : M.Cached) (h : m_laws_toCached p0 = some r) : SCalls Tryz.prog 315 [(true, M.Cached.en p0)] [(true, [.ro (.str r.Site), .ro (.str r.Path), .ro (.int .i64 r.Response.Type_), .ro (.int .i64 r.Response.Status), .ro (.int .i64 r.Response.Version), .own 5 1 (List.map enB r.Response.Body), .ro (.bool r.Response.Shares)])] := by
  unfold m_laws_toCached at h
  simp only [M.Cached.en]
  refine scalls_n (N := 15) (vars := [.cell 2 189]) Tryz.func315 rfl rfl rfl (by decide +kernel) (Nat.le_of_ble_eq_true rfl) fun base wd => ?_
  refine sq ?_
  apply SW_run
  · simp +decide only [E, reduceIte, Nat.reduceAdd, Nat.reduceMul, L, ti189]
    exact Is.mk _
  refine an (sq ?_)
  apply SW_run
  · simp +decide only [E, reduceIte, Nat.reduceAdd, Nat.reduceMul, L, ti189]
    exact Is.mk _
  refine an (sq ?_)
  apply SW_run
  · simp +decide only [E, reduceIte, Nat.reduceAdd, Nat.reduceMul, L, ti9, ti189, ti336]
    exact Is.mk _
  refine an (sq ?_)
  apply SW_run
  · simp +decide only [E, reduceIte, Nat.reduceAdd, Nat.reduceMul, L, ti9, ti189, ti336]
    exact Is.mk _
  refine an (sq ?_)
  obtain ⟨x1, h2, h⟩ := bind_some h
  apply SW_run
  · simp +decide only [E, reduceIte, Nat.reduceAdd, Nat.reduceMul, L, ti187, ti189, ti334, ti336]
    refine ⟨_, c_laws_toResponse p0.Response x1 h2, ?_⟩
    try simp +decide only [E, reduceIte, Nat.reduceAdd, Nat.reduceMul, L, ti187, ti189, ti334, ti336]
    exact Is.mk _
  refine an (sq ?_)
  apply SW_run
  · simp +decide only [E, reduceIte, Nat.reduceAdd, Nat.reduceMul, L, ti189]
    exact Is.mk _
  refine an (rt ?_)
  cases h
  simp [Ret, ti189, enB]

set_option maxHeartbeats 4000000 in
theorem c_laws_toCachedS (p0 : List M.Cached) (r : (List M.Cached)) (h : m_laws_toCachedS p0 = some r) : SCalls Tryz.prog 284 [(false, [.sl (List.map M.Cached.en p0)])] [(false, [.own 189 7 (List.map M.Cached.en r)])] := by
  unfold m_laws_toCachedS at h
  refine scalls_n (N := 23) (vars := [.tmp 2]) Tryz.func284 rfl rfl rfl (by decide +kernel) (Nat.le_of_ble_eq_true rfl) fun base wd => ?_
  refine sq ?_
  apply SW_run
  · simp +decide only [E, reduceIte, Nat.reduceAdd, Nat.reduceMul, L]
    exact Is.mk _
  refine an (sq ?_)
  obtain ⟨x1, h2, h⟩ := bind_some h
  apply SW_run
  · simp +decide only [E, reduceIte, Nat.reduceAdd, Nat.reduceMul, L, ti183, ti189, ti252, M.Cached.en]
    refine ⟨mkL_must h2, ?_⟩
    try simp +decide only [E, reduceIte, Nat.reduceAdd, Nat.reduceMul, L, ti183, ti189, ti252, M.Cached.en]
    exact Is.mk _
  refine an (sq (sq ?_))
  refine SW_cut (J := fun s => s.t 0 = .v false [.dat (.sl (List.map M.Cached.en p0))] ∧ s.t 3 = .v false [.row 100007 1] ∧ s.h 100007 = (1, .row 189 7 (List.map M.Cached.en (List.replicate (List.length p0 : Int).toNat (⟨(⟨#[]⟩ : ByteArray), (⟨#[]⟩ : ByteArray), (⟨0, 0, 0, ([] : List Int), false⟩ : M.Response)⟩ : M.Cached))) true) ∧ True) ?_ ?_
  · refine ⟨?_, ?_, ?_, trivial⟩ <;> (try simp +decide only [F, reduceIte, Nat.reduceAdd, M.Cached.en])
  rintro s3 ⟨f4, f5, f6, _⟩
  apply SW_run
  · simp +decide only [E, reduceIte, Nat.reduceAdd, Nat.reduceMul, L, f4, f5, f6]
    exact Is.mk _
  refine an (bk ?_)
  refine SW_loop (fun m s => ∃ v4 : Int, ∃ r7 : List M.Cached, s.t 0 = .v false [.dat (.sl (List.map M.Cached.en p0))] ∧ s.t 3 = .v false [.row 100007 1] ∧ s.t 4 = .v false [.dat (.int .i64 v4)] ∧ s.h 100007 = (1, .row 189 7 (List.map M.Cached.en r7) true) ∧ m_laws_toCachedS_L1 p0 m v4 r7 = some r) fuel ?_ ?_
  · refine ⟨0, (List.replicate (List.length p0 : Int).toNat (⟨(⟨#[]⟩ : ByteArray), (⟨#[]⟩ : ByteArray), (⟨0, 0, 0, ([] : List Int), false⟩ : M.Response)⟩ : M.Cached)), ?_, ?_, ?_, ?_, h⟩
    all_goals simp +decide only [F, reduceIte, Nat.reduceAdd, M.Cached.en, f4, f5, f6]
  rintro mL1 s7 ⟨v4, r7, f8, f9, f10, f11, h⟩
  rcases mL1 with _ | mL1
  · exact absurd h (by simp [m_laws_toCachedS_L1])
  simp only [m_laws_toCachedS_L1] at h
  refine sq (sq ?_)
  apply SW_run
  · simp +decide only [E, reduceIte, Nat.reduceAdd, Nat.reduceMul, L, ti252, f8, f9, f10, f11]
    exact Is.mk _
  refine an ?_
  rcases bcas (decide (v4 < (List.length p0 : Int))) with b12 | b12
  · replace h := ite_f b12 h
    refine SW_cf (by simp +decide only [F, reduceIte, Nat.reduceAdd, f8, f9, f10, f11, b12]) ?_
    refine xt (aft_cx (aft_ix (aft_x (an (sq ?_)))))
    apply SW_run
    · simp +decide only [E, reduceIte, Nat.reduceAdd, Nat.reduceMul, L, f8, f9, f10, f11, b12]
      exact Is.mk _
    refine an (rt ?_)
    cases h
    simp [Ret, M.Cached.en, f8, f9, f10, f11, b12]
  replace h := ite_t b12 h
  refine SW_ct (by simp +decide only [F, reduceIte, Nat.reduceAdd, f8, f9, f10, f11, b12]) ?_
  refine sk (an (sq (bk ?_)))
  obtain ⟨x13, h14, h⟩ := bind_some h
  obtain ⟨q15, q16, q17⟩ := idx_some h14
  obtain ⟨x18, h19, h⟩ := bind_some h
  obtain ⟨x20, h21, h⟩ := bind_some h
  obtain ⟨q22, q23, q24⟩ := idx_some h21
  apply SW_run
  · simp +decide only [E, reduceIte, Nat.reduceAdd, Nat.reduceMul, L, ti183, ti189, ti252, ti336, M.Cached.en, f8, f9, f10, f11, b12, q15, q16, q17, q22, q23, q24]
    refine ⟨_, c_laws_toCached x13 x18 h19, ?_⟩
    try simp +decide only [E, reduceIte, Nat.reduceAdd, Nat.reduceMul, L, ti183, ti189, ti252, ti336, M.Cached.en, f8, f9, f10, f11, b12, q15, q16, q17, q22, q23, q24]
    exact Is.mk _
  refine ab (an ?_)
  refine SW_cut (J := fun s => s.t 0 = .v false [.dat (.sl (List.map M.Cached.en p0))] ∧ s.t 3 = .v false [.row 100007 1] ∧ s.t 4 = .v false [.dat (.int .i64 v4)] ∧ s.h 100007 = (1, .row 189 7 (List.map M.Cached.en (List.set r7 v4.toNat x18)) true) ∧ True) ?_ ?_
  · refine ⟨?_, ?_, ?_, ?_, trivial⟩ <;> (try simp +decide only [F, reduceIte, Nat.reduceAdd, M.Cached.en, f8, f9, f10, f11, b12, q15, q16, q17, q22, q23, q24])
  rintro s25 ⟨f26, f27, f28, f29, _⟩
  apply SW_run
  · simp +decide only [E, reduceIte, Nat.reduceAdd, Nat.reduceMul, L, b12, q15, q16, q17, q22, q23, q24, f26, f27, f28, f29]
    exact Is.mk _
  refine aft_i ⟨mL1, by omega, (IntKind.i64.wrap (v4 + 1)), (List.set r7 v4.toNat x18), ?_, ?_, ?_, ?_, h⟩
  all_goals simp +decide only [F, reduceIte, Nat.reduceAdd, M.Cached.en, b12, q15, q16, q17, q22, q23, q24, f26, f27, f28, f29]

set_option maxHeartbeats 4000000 in
theorem c_laws_toCache (p0 : M.Cache) (r : M.Cache) (h : m_laws_toCache p0 = some r) : SCalls Tryz.prog 218 [(true, M.Cache.en p0)] [(true, [.ro (.int .i64 r.Version), .own 189 7 (List.map M.Cached.en r.Entries)])] := by
  unfold m_laws_toCache at h
  simp only [M.Cache.en]
  refine scalls_n (N := 12) (vars := [.cell 2 185]) Tryz.func218 rfl rfl rfl (by decide +kernel) (Nat.le_of_ble_eq_true rfl) fun base wd => ?_
  refine sq ?_
  apply SW_run
  · simp +decide only [E, reduceIte, Nat.reduceAdd, Nat.reduceMul, L, ti185]
    exact Is.mk _
  refine an (sq ?_)
  apply SW_run
  · simp +decide only [E, reduceIte, Nat.reduceAdd, Nat.reduceMul, L, ti185]
    exact Is.mk _
  refine an (sq ?_)
  apply SW_run
  · simp +decide only [E, reduceIte, Nat.reduceAdd, Nat.reduceMul, L, ti3, ti185, ti254]
    exact Is.mk _
  refine an (sq ?_)
  obtain ⟨x1, h2, h⟩ := bind_some h
  apply SW_run
  · simp +decide only [E, reduceIte, Nat.reduceAdd, Nat.reduceMul, L, ti183, ti185, ti252, ti254]
    refine ⟨_, c_laws_toCachedS p0.Entries x1 h2, ?_⟩
    try simp +decide only [E, reduceIte, Nat.reduceAdd, Nat.reduceMul, L, ti183, ti185, ti252, ti254]
    exact Is.mk _
  refine an (sq ?_)
  apply SW_run
  · simp +decide only [E, reduceIte, Nat.reduceAdd, Nat.reduceMul, L, ti185]
    exact Is.mk _
  refine an (rt ?_)
  cases h
  simp [Ret, ti185, M.Cached.en]

set_option maxHeartbeats 4000000 in
theorem c_laws_toCacheS (p0 : List M.Cache) (r : (List M.Cache)) (h : m_laws_toCacheS p0 = some r) : SCalls Tryz.prog 141 [(false, [.sl (List.map M.Cache.en p0)])] [(false, [.own 185 2 (List.map M.Cache.en r)])] := by
  unfold m_laws_toCacheS at h
  refine scalls_n (N := 23) (vars := [.tmp 2]) Tryz.func141 rfl rfl rfl (by decide +kernel) (Nat.le_of_ble_eq_true rfl) fun base wd => ?_
  refine sq ?_
  apply SW_run
  · simp +decide only [E, reduceIte, Nat.reduceAdd, Nat.reduceMul, L]
    exact Is.mk _
  refine an (sq ?_)
  obtain ⟨x1, h2, h⟩ := bind_some h
  apply SW_run
  · simp +decide only [E, reduceIte, Nat.reduceAdd, Nat.reduceMul, L, ti24, ti49, ti185, M.Cache.en]
    refine ⟨mkL_must h2, ?_⟩
    try simp +decide only [E, reduceIte, Nat.reduceAdd, Nat.reduceMul, L, ti24, ti49, ti185, M.Cache.en]
    exact Is.mk _
  refine an (sq (sq ?_))
  refine SW_cut (J := fun s => s.t 0 = .v false [.dat (.sl (List.map M.Cache.en p0))] ∧ s.t 3 = .v false [.row 100007 1] ∧ s.h 100007 = (1, .row 185 2 (List.map M.Cache.en (List.replicate (List.length p0 : Int).toNat (⟨0, ([] : List M.Cached)⟩ : M.Cache))) true) ∧ True) ?_ ?_
  · refine ⟨?_, ?_, ?_, trivial⟩ <;> (try simp +decide only [F, reduceIte, Nat.reduceAdd, M.Cache.en])
  rintro s3 ⟨f4, f5, f6, _⟩
  apply SW_run
  · simp +decide only [E, reduceIte, Nat.reduceAdd, Nat.reduceMul, L, f4, f5, f6]
    exact Is.mk _
  refine an (bk ?_)
  refine SW_loop (fun m s => ∃ v4 : Int, ∃ r7 : List M.Cache, s.t 0 = .v false [.dat (.sl (List.map M.Cache.en p0))] ∧ s.t 3 = .v false [.row 100007 1] ∧ s.t 4 = .v false [.dat (.int .i64 v4)] ∧ s.h 100007 = (1, .row 185 2 (List.map M.Cache.en r7) true) ∧ m_laws_toCacheS_L1 p0 m v4 r7 = some r) fuel ?_ ?_
  · refine ⟨0, (List.replicate (List.length p0 : Int).toNat (⟨0, ([] : List M.Cached)⟩ : M.Cache)), ?_, ?_, ?_, ?_, h⟩
    all_goals simp +decide only [F, reduceIte, Nat.reduceAdd, M.Cache.en, f4, f5, f6]
  rintro mL1 s7 ⟨v4, r7, f8, f9, f10, f11, h⟩
  rcases mL1 with _ | mL1
  · exact absurd h (by simp [m_laws_toCacheS_L1])
  simp only [m_laws_toCacheS_L1] at h
  refine sq (sq ?_)
  apply SW_run
  · simp +decide only [E, reduceIte, Nat.reduceAdd, Nat.reduceMul, L, ti24, f8, f9, f10, f11]
    exact Is.mk _
  refine an ?_
  rcases bcas (decide (v4 < (List.length p0 : Int))) with b12 | b12
  · replace h := ite_f b12 h
    refine SW_cf (by simp +decide only [F, reduceIte, Nat.reduceAdd, f8, f9, f10, f11, b12]) ?_
    refine xt (aft_cx (aft_ix (aft_x (an (sq ?_)))))
    apply SW_run
    · simp +decide only [E, reduceIte, Nat.reduceAdd, Nat.reduceMul, L, f8, f9, f10, f11, b12]
      exact Is.mk _
    refine an (rt ?_)
    cases h
    simp [Ret, M.Cache.en, f8, f9, f10, f11, b12]
  replace h := ite_t b12 h
  refine SW_ct (by simp +decide only [F, reduceIte, Nat.reduceAdd, f8, f9, f10, f11, b12]) ?_
  refine sk (an (sq (bk ?_)))
  obtain ⟨x13, h14, h⟩ := bind_some h
  obtain ⟨q15, q16, q17⟩ := idx_some h14
  obtain ⟨x18, h19, h⟩ := bind_some h
  obtain ⟨x20, h21, h⟩ := bind_some h
  obtain ⟨q22, q23, q24⟩ := idx_some h21
  apply SW_run
  · simp +decide only [E, reduceIte, Nat.reduceAdd, Nat.reduceMul, L, ti24, ti49, ti185, ti254, M.Cache.en, f8, f9, f10, f11, b12, q15, q16, q17, q22, q23, q24]
    refine ⟨_, c_laws_toCache x13 x18 h19, ?_⟩
    try simp +decide only [E, reduceIte, Nat.reduceAdd, Nat.reduceMul, L, ti24, ti49, ti185, ti254, M.Cache.en, f8, f9, f10, f11, b12, q15, q16, q17, q22, q23, q24]
    exact Is.mk _
  refine ab (an ?_)
  refine SW_cut (J := fun s => s.t 0 = .v false [.dat (.sl (List.map M.Cache.en p0))] ∧ s.t 3 = .v false [.row 100007 1] ∧ s.t 4 = .v false [.dat (.int .i64 v4)] ∧ s.h 100007 = (1, .row 185 2 (List.map M.Cache.en (List.set r7 v4.toNat x18)) true) ∧ True) ?_ ?_
  · refine ⟨?_, ?_, ?_, ?_, trivial⟩ <;> (try simp +decide only [F, reduceIte, Nat.reduceAdd, M.Cache.en, f8, f9, f10, f11, b12, q15, q16, q17, q22, q23, q24])
  rintro s25 ⟨f26, f27, f28, f29, _⟩
  apply SW_run
  · simp +decide only [E, reduceIte, Nat.reduceAdd, Nat.reduceMul, L, b12, q15, q16, q17, q22, q23, q24, f26, f27, f28, f29]
    exact Is.mk _
  refine aft_i ⟨mL1, by omega, (IntKind.i64.wrap (v4 + 1)), (List.set r7 v4.toNat x18), ?_, ?_, ?_, ?_, h⟩
  all_goals simp +decide only [F, reduceIte, Nat.reduceAdd, M.Cache.en, b12, q15, q16, q17, q22, q23, q24, f26, f27, f28, f29]

set_option maxHeartbeats 4000000 in
theorem c_laws_toCacheSet (p0 : M.CacheSet) (r : M.CacheSet) (h : m_laws_toCacheSet p0 = some r) : SCalls Tryz.prog 64 [(true, M.CacheSet.en p0)] [(true, [.own 185 2 (List.map M.Cache.en r.Caches)])] := by
  unfold m_laws_toCacheSet at h
  simp only [M.CacheSet.en]
  refine scalls_n (N := 9) (vars := [.cell 2 51]) Tryz.func64 rfl rfl rfl (by decide +kernel) (Nat.le_of_ble_eq_true rfl) fun base wd => ?_
  refine sq ?_
  apply SW_run
  · simp +decide only [E, reduceIte, Nat.reduceAdd, Nat.reduceMul, L, ti51]
    exact Is.mk _
  refine an (sq ?_)
  apply SW_run
  · simp +decide only [E, reduceIte, Nat.reduceAdd, Nat.reduceMul, L, ti51]
    exact Is.mk _
  refine an (sq ?_)
  obtain ⟨x1, h2, h⟩ := bind_some h
  apply SW_run
  · simp +decide only [E, reduceIte, Nat.reduceAdd, Nat.reduceMul, L, ti24, ti26, ti49, ti51]
    refine ⟨_, c_laws_toCacheS p0.Caches x1 h2, ?_⟩
    try simp +decide only [E, reduceIte, Nat.reduceAdd, Nat.reduceMul, L, ti24, ti26, ti49, ti51]
    exact Is.mk _
  refine an (sq ?_)
  apply SW_run
  · simp +decide only [E, reduceIte, Nat.reduceAdd, Nat.reduceMul, L, ti51]
    exact Is.mk _
  refine an (rt ?_)
  cases h
  simp [Ret, ti51, M.Cache.en]

set_option maxHeartbeats 4000000 in
theorem c_laws_toKey (p0 : M.Key) (r : M.Key) (h : m_laws_toKey p0 = some r) : SCalls Tryz.prog 316 [(true, M.Key.en p0)] [(true, [.ro (.int .i64 r.Kind), .ro (.int .i64 r.N), .ro (.str r.Text)])] := by
  unfold m_laws_toKey at h
  simp only [M.Key.en]
  refine scalls_n (N := 14) (vars := [.cell 2 203]) Tryz.func316 rfl rfl rfl (by decide +kernel) (Nat.le_of_ble_eq_true rfl) fun base wd => ?_
  refine sq ?_
  apply SW_run
  · simp +decide only [E, reduceIte, Nat.reduceAdd, Nat.reduceMul, L, ti203]
    exact Is.mk _
  refine an (sq ?_)
  apply SW_run
  · simp +decide only [E, reduceIte, Nat.reduceAdd, Nat.reduceMul, L, ti203]
    exact Is.mk _
  refine an (sq ?_)
  apply SW_run
  · simp +decide only [E, reduceIte, Nat.reduceAdd, Nat.reduceMul, L, ti3, ti203, ti307]
    exact Is.mk _
  refine an (sq ?_)
  apply SW_run
  · simp +decide only [E, reduceIte, Nat.reduceAdd, Nat.reduceMul, L, ti3, ti203, ti307]
    exact Is.mk _
  refine an (sq ?_)
  apply SW_run
  · simp +decide only [E, reduceIte, Nat.reduceAdd, Nat.reduceMul, L, ti9, ti203, ti307]
    exact Is.mk _
  refine an (sq ?_)
  apply SW_run
  · simp +decide only [E, reduceIte, Nat.reduceAdd, Nat.reduceMul, L, ti203]
    exact Is.mk _
  refine an (rt ?_)
  cases h
  simp [Ret, ti203]

set_option maxHeartbeats 4000000 in
theorem c_laws_toField (p0 : M.Field) (r : M.Field) (h : m_laws_toField p0 = some r) : SCalls Tryz.prog 340 [(true, M.Field.en p0)] [(true, [.ro (.str r.Name), .ro (.int .i64 r.N)])] := by
  unfold m_laws_toField at h
  simp only [M.Field.en]
  refine scalls_n (N := 11) (vars := [.cell 2 273]) Tryz.func340 rfl rfl rfl (by decide +kernel) (Nat.le_of_ble_eq_true rfl) fun base wd => ?_
  refine sq ?_
  apply SW_run
  · simp +decide only [E, reduceIte, Nat.reduceAdd, Nat.reduceMul, L, ti273]
    exact Is.mk _
  refine an (sq ?_)
  apply SW_run
  · simp +decide only [E, reduceIte, Nat.reduceAdd, Nat.reduceMul, L, ti273]
    exact Is.mk _
  refine an (sq ?_)
  apply SW_run
  · simp +decide only [E, reduceIte, Nat.reduceAdd, Nat.reduceMul, L, ti9, ti273, ti358]
    exact Is.mk _
  refine an (sq ?_)
  apply SW_run
  · simp +decide only [E, reduceIte, Nat.reduceAdd, Nat.reduceMul, L, ti3, ti273, ti358]
    exact Is.mk _
  refine an (sq ?_)
  apply SW_run
  · simp +decide only [E, reduceIte, Nat.reduceAdd, Nat.reduceMul, L, ti273]
    exact Is.mk _
  refine an (rt ?_)
  cases h
  simp [Ret, ti273]

set_option maxHeartbeats 4000000 in
theorem c_laws_toFieldS (p0 : List M.Field) (r : (List M.Field)) (h : m_laws_toFieldS p0 = some r) : SCalls Tryz.prog 334 [(false, [.sl (List.map M.Field.en p0)])] [(false, [.own 273 2 (List.map M.Field.en r)])] := by
  unfold m_laws_toFieldS at h
  refine scalls_n (N := 23) (vars := [.tmp 2]) Tryz.func334 rfl rfl rfl (by decide +kernel) (Nat.le_of_ble_eq_true rfl) fun base wd => ?_
  refine sq ?_
  apply SW_run
  · simp +decide only [E, reduceIte, Nat.reduceAdd, Nat.reduceMul, L]
    exact Is.mk _
  refine an (sq ?_)
  obtain ⟨x1, h2, h⟩ := bind_some h
  apply SW_run
  · simp +decide only [E, reduceIte, Nat.reduceAdd, Nat.reduceMul, L, ti204, ti273, ti308, M.Field.en]
    refine ⟨mkL_must h2, ?_⟩
    try simp +decide only [E, reduceIte, Nat.reduceAdd, Nat.reduceMul, L, ti204, ti273, ti308, M.Field.en]
    exact Is.mk _
  refine an (sq (sq ?_))
  refine SW_cut (J := fun s => s.t 0 = .v false [.dat (.sl (List.map M.Field.en p0))] ∧ s.t 3 = .v false [.row 100007 1] ∧ s.h 100007 = (1, .row 273 2 (List.map M.Field.en (List.replicate (List.length p0 : Int).toNat (⟨(⟨#[]⟩ : ByteArray), 0⟩ : M.Field))) true) ∧ True) ?_ ?_
  · refine ⟨?_, ?_, ?_, trivial⟩ <;> (try simp +decide only [F, reduceIte, Nat.reduceAdd, M.Field.en])
  rintro s3 ⟨f4, f5, f6, _⟩
  apply SW_run
  · simp +decide only [E, reduceIte, Nat.reduceAdd, Nat.reduceMul, L, f4, f5, f6]
    exact Is.mk _
  refine an (bk ?_)
  refine SW_loop (fun m s => ∃ v4 : Int, ∃ r7 : List M.Field, s.t 0 = .v false [.dat (.sl (List.map M.Field.en p0))] ∧ s.t 3 = .v false [.row 100007 1] ∧ s.t 4 = .v false [.dat (.int .i64 v4)] ∧ s.h 100007 = (1, .row 273 2 (List.map M.Field.en r7) true) ∧ m_laws_toFieldS_L1 p0 m v4 r7 = some r) fuel ?_ ?_
  · refine ⟨0, (List.replicate (List.length p0 : Int).toNat (⟨(⟨#[]⟩ : ByteArray), 0⟩ : M.Field)), ?_, ?_, ?_, ?_, h⟩
    all_goals simp +decide only [F, reduceIte, Nat.reduceAdd, M.Field.en, f4, f5, f6]
  rintro mL1 s7 ⟨v4, r7, f8, f9, f10, f11, h⟩
  rcases mL1 with _ | mL1
  · exact absurd h (by simp [m_laws_toFieldS_L1])
  simp only [m_laws_toFieldS_L1] at h
  refine sq (sq ?_)
  apply SW_run
  · simp +decide only [E, reduceIte, Nat.reduceAdd, Nat.reduceMul, L, ti308, f8, f9, f10, f11]
    exact Is.mk _
  refine an ?_
  rcases bcas (decide (v4 < (List.length p0 : Int))) with b12 | b12
  · replace h := ite_f b12 h
    refine SW_cf (by simp +decide only [F, reduceIte, Nat.reduceAdd, f8, f9, f10, f11, b12]) ?_
    refine xt (aft_cx (aft_ix (aft_x (an (sq ?_)))))
    apply SW_run
    · simp +decide only [E, reduceIte, Nat.reduceAdd, Nat.reduceMul, L, f8, f9, f10, f11, b12]
      exact Is.mk _
    refine an (rt ?_)
    cases h
    simp [Ret, M.Field.en, f8, f9, f10, f11, b12]
  replace h := ite_t b12 h
  refine SW_ct (by simp +decide only [F, reduceIte, Nat.reduceAdd, f8, f9, f10, f11, b12]) ?_
  refine sk (an (sq (bk ?_)))
  obtain ⟨x13, h14, h⟩ := bind_some h
  obtain ⟨q15, q16, q17⟩ := idx_some h14
  obtain ⟨x18, h19, h⟩ := bind_some h
  obtain ⟨x20, h21, h⟩ := bind_some h
  obtain ⟨q22, q23, q24⟩ := idx_some h21
  apply SW_run
  · simp +decide only [E, reduceIte, Nat.reduceAdd, Nat.reduceMul, L, ti204, ti273, ti308, ti358, M.Field.en, f8, f9, f10, f11, b12, q15, q16, q17, q22, q23, q24]
    refine ⟨_, c_laws_toField x13 x18 h19, ?_⟩
    try simp +decide only [E, reduceIte, Nat.reduceAdd, Nat.reduceMul, L, ti204, ti273, ti308, ti358, M.Field.en, f8, f9, f10, f11, b12, q15, q16, q17, q22, q23, q24]
    exact Is.mk _
  refine ab (an ?_)
  refine SW_cut (J := fun s => s.t 0 = .v false [.dat (.sl (List.map M.Field.en p0))] ∧ s.t 3 = .v false [.row 100007 1] ∧ s.t 4 = .v false [.dat (.int .i64 v4)] ∧ s.h 100007 = (1, .row 273 2 (List.map M.Field.en (List.set r7 v4.toNat x18)) true) ∧ True) ?_ ?_
  · refine ⟨?_, ?_, ?_, ?_, trivial⟩ <;> (try simp +decide only [F, reduceIte, Nat.reduceAdd, M.Field.en, f8, f9, f10, f11, b12, q15, q16, q17, q22, q23, q24])
  rintro s25 ⟨f26, f27, f28, f29, _⟩
  apply SW_run
  · simp +decide only [E, reduceIte, Nat.reduceAdd, Nat.reduceMul, L, b12, q15, q16, q17, q22, q23, q24, f26, f27, f28, f29]
    exact Is.mk _
  refine aft_i ⟨mL1, by omega, (IntKind.i64.wrap (v4 + 1)), (List.set r7 v4.toNat x18), ?_, ?_, ?_, ?_, h⟩
  all_goals simp +decide only [F, reduceIte, Nat.reduceAdd, M.Field.en, b12, q15, q16, q17, q22, q23, q24, f26, f27, f28, f29]

set_option maxHeartbeats 4000000 in
theorem c_laws_toRecord (p0 : M.Record) (r : M.Record) (h : m_laws_toRecord p0 = some r) : SCalls Tryz.prog 317 [(true, M.Record.en p0)] [(true, [.own 273 2 (List.map M.Field.en r.Fields)])] := by
  unfold m_laws_toRecord at h
  simp only [M.Record.en]
  refine scalls_n (N := 9) (vars := [.cell 2 206]) Tryz.func317 rfl rfl rfl (by decide +kernel) (Nat.le_of_ble_eq_true rfl) fun base wd => ?_
  refine sq ?_
  apply SW_run
  · simp +decide only [E, reduceIte, Nat.reduceAdd, Nat.reduceMul, L, ti206]
    exact Is.mk _
  refine an (sq ?_)
  apply SW_run
  · simp +decide only [E, reduceIte, Nat.reduceAdd, Nat.reduceMul, L, ti206]
    exact Is.mk _
  refine an (sq ?_)
  obtain ⟨x1, h2, h⟩ := bind_some h
  apply SW_run
  · simp +decide only [E, reduceIte, Nat.reduceAdd, Nat.reduceMul, L, ti204, ti206, ti308, ti310]
    refine ⟨_, c_laws_toFieldS p0.Fields x1 h2, ?_⟩
    try simp +decide only [E, reduceIte, Nat.reduceAdd, Nat.reduceMul, L, ti204, ti206, ti308, ti310]
    exact Is.mk _
  refine an (sq ?_)
  apply SW_run
  · simp +decide only [E, reduceIte, Nat.reduceAdd, Nat.reduceMul, L, ti206]
    exact Is.mk _
  refine an (rt ?_)
  cases h
  simp [Ret, ti206, M.Field.en]

set_option maxHeartbeats 4000000 in
theorem c_laws_toItem (p0 : M.Item) (r : M.Item) (h : m_laws_toItem p0 = some r) : SCalls Tryz.prog 285 [(true, M.Item.en p0)] [(true, [.ro (.int .i64 r.Key.Kind), .ro (.int .i64 r.Key.N), .ro (.str r.Key.Text), .own 273 2 (List.map M.Field.en r.Record.Fields)])] := by
  unfold m_laws_toItem at h
  simp only [M.Item.en]
  refine scalls_n (N := 13) (vars := [.cell 2 208]) Tryz.func285 rfl rfl rfl (by decide +kernel) (Nat.le_of_ble_eq_true rfl) fun base wd => ?_
  refine sq ?_
  apply SW_run
  · simp +decide only [E, reduceIte, Nat.reduceAdd, Nat.reduceMul, L, ti208]
    exact Is.mk _
  refine an (sq ?_)
  apply SW_run
  · simp +decide only [E, reduceIte, Nat.reduceAdd, Nat.reduceMul, L, ti208]
    exact Is.mk _
  refine an (sq ?_)
  obtain ⟨x1, h2, h⟩ := bind_some h
  apply SW_run
  · simp +decide only [E, reduceIte, Nat.reduceAdd, Nat.reduceMul, L, ti203, ti208, ti307, ti312]
    refine ⟨_, c_laws_toKey p0.Key x1 h2, ?_⟩
    try simp +decide only [E, reduceIte, Nat.reduceAdd, Nat.reduceMul, L, ti203, ti208, ti307, ti312]
    exact Is.mk _
  refine an (sq ?_)
  obtain ⟨x3, h4, h⟩ := bind_some h
  apply SW_run
  · simp +decide only [E, reduceIte, Nat.reduceAdd, Nat.reduceMul, L, ti206, ti208, ti310, ti312]
    refine ⟨_, c_laws_toRecord p0.Record x3 h4, ?_⟩
    try simp +decide only [E, reduceIte, Nat.reduceAdd, Nat.reduceMul, L, ti206, ti208, ti310, ti312]
    exact Is.mk _
  refine an (sq ?_)
  apply SW_run
  · simp +decide only [E, reduceIte, Nat.reduceAdd, Nat.reduceMul, L, ti208]
    exact Is.mk _
  refine an (rt ?_)
  cases h
  simp [Ret, ti208, M.Field.en]

set_option maxHeartbeats 4000000 in
theorem c_laws_toItemS (p0 : List M.Item) (r : (List M.Item)) (h : m_laws_toItemS p0 = some r) : SCalls Tryz.prog 219 [(false, [.sl (List.map M.Item.en p0)])] [(false, [.own 208 4 (List.map M.Item.en r)])] := by
  unfold m_laws_toItemS at h
  refine scalls_n (N := 23) (vars := [.tmp 2]) Tryz.func219 rfl rfl rfl (by decide +kernel) (Nat.le_of_ble_eq_true rfl) fun base wd => ?_
  refine sq ?_
  apply SW_run
  · simp +decide only [E, reduceIte, Nat.reduceAdd, Nat.reduceMul, L]
    exact Is.mk _
  refine an (sq ?_)
  obtain ⟨x1, h2, h⟩ := bind_some h
  apply SW_run
  · simp +decide only [E, reduceIte, Nat.reduceAdd, Nat.reduceMul, L, ti34, ti58, ti208, M.Item.en]
    refine ⟨mkL_must h2, ?_⟩
    try simp +decide only [E, reduceIte, Nat.reduceAdd, Nat.reduceMul, L, ti34, ti58, ti208, M.Item.en]
    exact Is.mk _
  refine an (sq (sq ?_))
  refine SW_cut (J := fun s => s.t 0 = .v false [.dat (.sl (List.map M.Item.en p0))] ∧ s.t 3 = .v false [.row 100007 1] ∧ s.h 100007 = (1, .row 208 4 (List.map M.Item.en (List.replicate (List.length p0 : Int).toNat (⟨(⟨0, 0, (⟨#[]⟩ : ByteArray)⟩ : M.Key), (⟨([] : List M.Field)⟩ : M.Record)⟩ : M.Item))) true) ∧ True) ?_ ?_
  · refine ⟨?_, ?_, ?_, trivial⟩ <;> (try simp +decide only [F, reduceIte, Nat.reduceAdd, M.Item.en])
  rintro s3 ⟨f4, f5, f6, _⟩
  apply SW_run
  · simp +decide only [E, reduceIte, Nat.reduceAdd, Nat.reduceMul, L, f4, f5, f6]
    exact Is.mk _
  refine an (bk ?_)
  refine SW_loop (fun m s => ∃ v4 : Int, ∃ r7 : List M.Item, s.t 0 = .v false [.dat (.sl (List.map M.Item.en p0))] ∧ s.t 3 = .v false [.row 100007 1] ∧ s.t 4 = .v false [.dat (.int .i64 v4)] ∧ s.h 100007 = (1, .row 208 4 (List.map M.Item.en r7) true) ∧ m_laws_toItemS_L1 p0 m v4 r7 = some r) fuel ?_ ?_
  · refine ⟨0, (List.replicate (List.length p0 : Int).toNat (⟨(⟨0, 0, (⟨#[]⟩ : ByteArray)⟩ : M.Key), (⟨([] : List M.Field)⟩ : M.Record)⟩ : M.Item)), ?_, ?_, ?_, ?_, h⟩
    all_goals simp +decide only [F, reduceIte, Nat.reduceAdd, M.Item.en, f4, f5, f6]
  rintro mL1 s7 ⟨v4, r7, f8, f9, f10, f11, h⟩
  rcases mL1 with _ | mL1
  · exact absurd h (by simp [m_laws_toItemS_L1])
  simp only [m_laws_toItemS_L1] at h
  refine sq (sq ?_)
  apply SW_run
  · simp +decide only [E, reduceIte, Nat.reduceAdd, Nat.reduceMul, L, ti34, f8, f9, f10, f11]
    exact Is.mk _
  refine an ?_
  rcases bcas (decide (v4 < (List.length p0 : Int))) with b12 | b12
  · replace h := ite_f b12 h
    refine SW_cf (by simp +decide only [F, reduceIte, Nat.reduceAdd, f8, f9, f10, f11, b12]) ?_
    refine xt (aft_cx (aft_ix (aft_x (an (sq ?_)))))
    apply SW_run
    · simp +decide only [E, reduceIte, Nat.reduceAdd, Nat.reduceMul, L, f8, f9, f10, f11, b12]
      exact Is.mk _
    refine an (rt ?_)
    cases h
    simp [Ret, M.Item.en, f8, f9, f10, f11, b12]
  replace h := ite_t b12 h
  refine SW_ct (by simp +decide only [F, reduceIte, Nat.reduceAdd, f8, f9, f10, f11, b12]) ?_
  refine sk (an (sq (bk ?_)))
  obtain ⟨x13, h14, h⟩ := bind_some h
  obtain ⟨q15, q16, q17⟩ := idx_some h14
  obtain ⟨x18, h19, h⟩ := bind_some h
  obtain ⟨x20, h21, h⟩ := bind_some h
  obtain ⟨q22, q23, q24⟩ := idx_some h21
  apply SW_run
  · simp +decide only [E, reduceIte, Nat.reduceAdd, Nat.reduceMul, L, ti34, ti58, ti208, ti312, M.Item.en, f8, f9, f10, f11, b12, q15, q16, q17, q22, q23, q24]
    refine ⟨_, c_laws_toItem x13 x18 h19, ?_⟩
    try simp +decide only [E, reduceIte, Nat.reduceAdd, Nat.reduceMul, L, ti34, ti58, ti208, ti312, M.Item.en, f8, f9, f10, f11, b12, q15, q16, q17, q22, q23, q24]
    exact Is.mk _
  refine ab (an ?_)
  refine SW_cut (J := fun s => s.t 0 = .v false [.dat (.sl (List.map M.Item.en p0))] ∧ s.t 3 = .v false [.row 100007 1] ∧ s.t 4 = .v false [.dat (.int .i64 v4)] ∧ s.h 100007 = (1, .row 208 4 (List.map M.Item.en (List.set r7 v4.toNat x18)) true) ∧ True) ?_ ?_
  · refine ⟨?_, ?_, ?_, ?_, trivial⟩ <;> (try simp +decide only [F, reduceIte, Nat.reduceAdd, M.Item.en, f8, f9, f10, f11, b12, q15, q16, q17, q22, q23, q24])
  rintro s25 ⟨f26, f27, f28, f29, _⟩
  apply SW_run
  · simp +decide only [E, reduceIte, Nat.reduceAdd, Nat.reduceMul, L, b12, q15, q16, q17, q22, q23, q24, f26, f27, f28, f29]
    exact Is.mk _
  refine aft_i ⟨mL1, by omega, (IntKind.i64.wrap (v4 + 1)), (List.set r7 v4.toNat x18), ?_, ?_, ?_, ?_, h⟩
  all_goals simp +decide only [F, reduceIte, Nat.reduceAdd, M.Item.en, b12, q15, q16, q17, q22, q23, q24, f26, f27, f28, f29]

set_option maxHeartbeats 4000000 in
theorem c_laws_toStore (p0 : M.Store) (r : M.Store) (h : m_laws_toStore p0 = some r) : SCalls Tryz.prog 142 [(true, M.Store.en p0)] [(true, [.ro (.str r.Name), .own 208 4 (List.map M.Item.en r.Items), .ro (.int .i64 r.Auto)])] := by
  unfold m_laws_toStore at h
  simp only [M.Store.en]
  refine scalls_n (N := 15) (vars := [.cell 2 60]) Tryz.func142 rfl rfl rfl (by decide +kernel) (Nat.le_of_ble_eq_true rfl) fun base wd => ?_
  refine sq ?_
  apply SW_run
  · simp +decide only [E, reduceIte, Nat.reduceAdd, Nat.reduceMul, L, ti60]
    exact Is.mk _
  refine an (sq ?_)
  apply SW_run
  · simp +decide only [E, reduceIte, Nat.reduceAdd, Nat.reduceMul, L, ti60]
    exact Is.mk _
  refine an (sq ?_)
  apply SW_run
  · simp +decide only [E, reduceIte, Nat.reduceAdd, Nat.reduceMul, L, ti9, ti36, ti60]
    exact Is.mk _
  refine an (sq ?_)
  obtain ⟨x1, h2, h⟩ := bind_some h
  apply SW_run
  · simp +decide only [E, reduceIte, Nat.reduceAdd, Nat.reduceMul, L, ti34, ti36, ti58, ti60]
    refine ⟨_, c_laws_toItemS p0.Items x1 h2, ?_⟩
    try simp +decide only [E, reduceIte, Nat.reduceAdd, Nat.reduceMul, L, ti34, ti36, ti58, ti60]
    exact Is.mk _
  refine an (sq ?_)
  apply SW_run
  · simp +decide only [E, reduceIte, Nat.reduceAdd, Nat.reduceMul, L, ti3, ti36, ti60]
    exact Is.mk _
  refine an (sq ?_)
  apply SW_run
  · simp +decide only [E, reduceIte, Nat.reduceAdd, Nat.reduceMul, L, ti60]
    exact Is.mk _
  refine an (rt ?_)
  cases h
  simp [Ret, ti60, M.Item.en]

set_option maxHeartbeats 4000000 in
theorem c_laws_toStoreS (p0 : List M.Store) (r : (List M.Store)) (h : m_laws_toStoreS p0 = some r) : SCalls Tryz.prog 205 [(false, [.sl (List.map M.Store.en p0)])] [(false, [.own 60 3 (List.map M.Store.en r)])] := by
  unfold m_laws_toStoreS at h
  refine scalls_n (N := 23) (vars := [.tmp 2]) Tryz.func205 rfl rfl rfl (by decide +kernel) (Nat.le_of_ble_eq_true rfl) fun base wd => ?_
  refine sq ?_
  apply SW_run
  · simp +decide only [E, reduceIte, Nat.reduceAdd, Nat.reduceMul, L]
    exact Is.mk _
  refine an (sq ?_)
  obtain ⟨x1, h2, h⟩ := bind_some h
  apply SW_run
  · simp +decide only [E, reduceIte, Nat.reduceAdd, Nat.reduceMul, L, ti27, ti52, ti60, M.Store.en]
    refine ⟨mkL_must h2, ?_⟩
    try simp +decide only [E, reduceIte, Nat.reduceAdd, Nat.reduceMul, L, ti27, ti52, ti60, M.Store.en]
    exact Is.mk _
  refine an (sq (sq ?_))
  refine SW_cut (J := fun s => s.t 0 = .v false [.dat (.sl (List.map M.Store.en p0))] ∧ s.t 3 = .v false [.row 100007 1] ∧ s.h 100007 = (1, .row 60 3 (List.map M.Store.en (List.replicate (List.length p0 : Int).toNat (⟨(⟨#[]⟩ : ByteArray), ([] : List M.Item), 0⟩ : M.Store))) true) ∧ True) ?_ ?_
  · refine ⟨?_, ?_, ?_, trivial⟩ <;> (try simp +decide only [F, reduceIte, Nat.reduceAdd, M.Store.en])
  rintro s3 ⟨f4, f5, f6, _⟩
  apply SW_run
  · simp +decide only [E, reduceIte, Nat.reduceAdd, Nat.reduceMul, L, f4, f5, f6]
    exact Is.mk _
  refine an (bk ?_)
  refine SW_loop (fun m s => ∃ v4 : Int, ∃ r7 : List M.Store, s.t 0 = .v false [.dat (.sl (List.map M.Store.en p0))] ∧ s.t 3 = .v false [.row 100007 1] ∧ s.t 4 = .v false [.dat (.int .i64 v4)] ∧ s.h 100007 = (1, .row 60 3 (List.map M.Store.en r7) true) ∧ m_laws_toStoreS_L1 p0 m v4 r7 = some r) fuel ?_ ?_
  · refine ⟨0, (List.replicate (List.length p0 : Int).toNat (⟨(⟨#[]⟩ : ByteArray), ([] : List M.Item), 0⟩ : M.Store)), ?_, ?_, ?_, ?_, h⟩
    all_goals simp +decide only [F, reduceIte, Nat.reduceAdd, M.Store.en, f4, f5, f6]
  rintro mL1 s7 ⟨v4, r7, f8, f9, f10, f11, h⟩
  rcases mL1 with _ | mL1
  · exact absurd h (by simp [m_laws_toStoreS_L1])
  simp only [m_laws_toStoreS_L1] at h
  refine sq (sq ?_)
  apply SW_run
  · simp +decide only [E, reduceIte, Nat.reduceAdd, Nat.reduceMul, L, ti27, f8, f9, f10, f11]
    exact Is.mk _
  refine an ?_
  rcases bcas (decide (v4 < (List.length p0 : Int))) with b12 | b12
  · replace h := ite_f b12 h
    refine SW_cf (by simp +decide only [F, reduceIte, Nat.reduceAdd, f8, f9, f10, f11, b12]) ?_
    refine xt (aft_cx (aft_ix (aft_x (an (sq ?_)))))
    apply SW_run
    · simp +decide only [E, reduceIte, Nat.reduceAdd, Nat.reduceMul, L, f8, f9, f10, f11, b12]
      exact Is.mk _
    refine an (rt ?_)
    cases h
    simp [Ret, M.Store.en, f8, f9, f10, f11, b12]
  replace h := ite_t b12 h
  refine SW_ct (by simp +decide only [F, reduceIte, Nat.reduceAdd, f8, f9, f10, f11, b12]) ?_
  refine sk (an (sq (bk ?_)))
  obtain ⟨x13, h14, h⟩ := bind_some h
  obtain ⟨q15, q16, q17⟩ := idx_some h14
  obtain ⟨x18, h19, h⟩ := bind_some h
  obtain ⟨x20, h21, h⟩ := bind_some h
  obtain ⟨q22, q23, q24⟩ := idx_some h21
  apply SW_run
  · simp +decide only [E, reduceIte, Nat.reduceAdd, Nat.reduceMul, L, ti27, ti36, ti52, ti60, M.Store.en, f8, f9, f10, f11, b12, q15, q16, q17, q22, q23, q24]
    refine ⟨_, c_laws_toStore x13 x18 h19, ?_⟩
    try simp +decide only [E, reduceIte, Nat.reduceAdd, Nat.reduceMul, L, ti27, ti36, ti52, ti60, M.Store.en, f8, f9, f10, f11, b12, q15, q16, q17, q22, q23, q24]
    exact Is.mk _
  refine ab (an ?_)
  refine SW_cut (J := fun s => s.t 0 = .v false [.dat (.sl (List.map M.Store.en p0))] ∧ s.t 3 = .v false [.row 100007 1] ∧ s.t 4 = .v false [.dat (.int .i64 v4)] ∧ s.h 100007 = (1, .row 60 3 (List.map M.Store.en (List.set r7 v4.toNat x18)) true) ∧ True) ?_ ?_
  · refine ⟨?_, ?_, ?_, ?_, trivial⟩ <;> (try simp +decide only [F, reduceIte, Nat.reduceAdd, M.Store.en, f8, f9, f10, f11, b12, q15, q16, q17, q22, q23, q24])
  rintro s25 ⟨f26, f27, f28, f29, _⟩
  apply SW_run
  · simp +decide only [E, reduceIte, Nat.reduceAdd, Nat.reduceMul, L, b12, q15, q16, q17, q22, q23, q24, f26, f27, f28, f29]
    exact Is.mk _
  refine aft_i ⟨mL1, by omega, (IntKind.i64.wrap (v4 + 1)), (List.set r7 v4.toNat x18), ?_, ?_, ?_, ?_, h⟩
  all_goals simp +decide only [F, reduceIte, Nat.reduceAdd, M.Store.en, b12, q15, q16, q17, q22, q23, q24, f26, f27, f28, f29]

set_option maxHeartbeats 4000000 in
theorem c_laws_toIndexDef (p0 : M.IndexDef) (r : M.IndexDef) (h : m_laws_toIndexDef p0 = some r) : SCalls Tryz.prog 278 [(true, M.IndexDef.en p0)] [(true, [.ro (.str r.Store), .ro (.str r.Field)])] := by
  unfold m_laws_toIndexDef at h
  simp only [M.IndexDef.en]
  refine scalls_n (N := 11) (vars := [.cell 2 225]) Tryz.func278 rfl rfl rfl (by decide +kernel) (Nat.le_of_ble_eq_true rfl) fun base wd => ?_
  refine sq ?_
  apply SW_run
  · simp +decide only [E, reduceIte, Nat.reduceAdd, Nat.reduceMul, L, ti225]
    exact Is.mk _
  refine an (sq ?_)
  apply SW_run
  · simp +decide only [E, reduceIte, Nat.reduceAdd, Nat.reduceMul, L, ti225]
    exact Is.mk _
  refine an (sq ?_)
  apply SW_run
  · simp +decide only [E, reduceIte, Nat.reduceAdd, Nat.reduceMul, L, ti9, ti225, ti302]
    exact Is.mk _
  refine an (sq ?_)
  apply SW_run
  · simp +decide only [E, reduceIte, Nat.reduceAdd, Nat.reduceMul, L, ti9, ti225, ti302]
    exact Is.mk _
  refine an (sq ?_)
  apply SW_run
  · simp +decide only [E, reduceIte, Nat.reduceAdd, Nat.reduceMul, L, ti225]
    exact Is.mk _
  refine an (rt ?_)
  cases h
  simp [Ret, ti225]

set_option maxHeartbeats 4000000 in
theorem c_laws_toIndexDefS (p0 : List M.IndexDef) (r : (List M.IndexDef)) (h : m_laws_toIndexDefS p0 = some r) : SCalls Tryz.prog 206 [(false, [.sl (List.map M.IndexDef.en p0)])] [(false, [.own 225 2 (List.map M.IndexDef.en r)])] := by
  unfold m_laws_toIndexDefS at h
  refine scalls_n (N := 23) (vars := [.tmp 2]) Tryz.func206 rfl rfl rfl (by decide +kernel) (Nat.le_of_ble_eq_true rfl) fun base wd => ?_
  refine sq ?_
  apply SW_run
  · simp +decide only [E, reduceIte, Nat.reduceAdd, Nat.reduceMul, L]
    exact Is.mk _
  refine an (sq ?_)
  obtain ⟨x1, h2, h⟩ := bind_some h
  apply SW_run
  · simp +decide only [E, reduceIte, Nat.reduceAdd, Nat.reduceMul, L, ti28, ti53, ti225, M.IndexDef.en]
    refine ⟨mkL_must h2, ?_⟩
    try simp +decide only [E, reduceIte, Nat.reduceAdd, Nat.reduceMul, L, ti28, ti53, ti225, M.IndexDef.en]
    exact Is.mk _
  refine an (sq (sq ?_))
  refine SW_cut (J := fun s => s.t 0 = .v false [.dat (.sl (List.map M.IndexDef.en p0))] ∧ s.t 3 = .v false [.row 100007 1] ∧ s.h 100007 = (1, .row 225 2 (List.map M.IndexDef.en (List.replicate (List.length p0 : Int).toNat (⟨(⟨#[]⟩ : ByteArray), (⟨#[]⟩ : ByteArray)⟩ : M.IndexDef))) true) ∧ True) ?_ ?_
  · refine ⟨?_, ?_, ?_, trivial⟩ <;> (try simp +decide only [F, reduceIte, Nat.reduceAdd, M.IndexDef.en])
  rintro s3 ⟨f4, f5, f6, _⟩
  apply SW_run
  · simp +decide only [E, reduceIte, Nat.reduceAdd, Nat.reduceMul, L, f4, f5, f6]
    exact Is.mk _
  refine an (bk ?_)
  refine SW_loop (fun m s => ∃ v4 : Int, ∃ r7 : List M.IndexDef, s.t 0 = .v false [.dat (.sl (List.map M.IndexDef.en p0))] ∧ s.t 3 = .v false [.row 100007 1] ∧ s.t 4 = .v false [.dat (.int .i64 v4)] ∧ s.h 100007 = (1, .row 225 2 (List.map M.IndexDef.en r7) true) ∧ m_laws_toIndexDefS_L1 p0 m v4 r7 = some r) fuel ?_ ?_
  · refine ⟨0, (List.replicate (List.length p0 : Int).toNat (⟨(⟨#[]⟩ : ByteArray), (⟨#[]⟩ : ByteArray)⟩ : M.IndexDef)), ?_, ?_, ?_, ?_, h⟩
    all_goals simp +decide only [F, reduceIte, Nat.reduceAdd, M.IndexDef.en, f4, f5, f6]
  rintro mL1 s7 ⟨v4, r7, f8, f9, f10, f11, h⟩
  rcases mL1 with _ | mL1
  · exact absurd h (by simp [m_laws_toIndexDefS_L1])
  simp only [m_laws_toIndexDefS_L1] at h
  refine sq (sq ?_)
  apply SW_run
  · simp +decide only [E, reduceIte, Nat.reduceAdd, Nat.reduceMul, L, ti28, f8, f9, f10, f11]
    exact Is.mk _
  refine an ?_
  rcases bcas (decide (v4 < (List.length p0 : Int))) with b12 | b12
  · replace h := ite_f b12 h
    refine SW_cf (by simp +decide only [F, reduceIte, Nat.reduceAdd, f8, f9, f10, f11, b12]) ?_
    refine xt (aft_cx (aft_ix (aft_x (an (sq ?_)))))
    apply SW_run
    · simp +decide only [E, reduceIte, Nat.reduceAdd, Nat.reduceMul, L, f8, f9, f10, f11, b12]
      exact Is.mk _
    refine an (rt ?_)
    cases h
    simp [Ret, M.IndexDef.en, f8, f9, f10, f11, b12]
  replace h := ite_t b12 h
  refine SW_ct (by simp +decide only [F, reduceIte, Nat.reduceAdd, f8, f9, f10, f11, b12]) ?_
  refine sk (an (sq (bk ?_)))
  obtain ⟨x13, h14, h⟩ := bind_some h
  obtain ⟨q15, q16, q17⟩ := idx_some h14
  obtain ⟨x18, h19, h⟩ := bind_some h
  obtain ⟨x20, h21, h⟩ := bind_some h
  obtain ⟨q22, q23, q24⟩ := idx_some h21
  apply SW_run
  · simp +decide only [E, reduceIte, Nat.reduceAdd, Nat.reduceMul, L, ti28, ti53, ti225, ti302, M.IndexDef.en, f8, f9, f10, f11, b12, q15, q16, q17, q22, q23, q24]
    refine ⟨_, c_laws_toIndexDef x13 x18 h19, ?_⟩
    try simp +decide only [E, reduceIte, Nat.reduceAdd, Nat.reduceMul, L, ti28, ti53, ti225, ti302, M.IndexDef.en, f8, f9, f10, f11, b12, q15, q16, q17, q22, q23, q24]
    exact Is.mk _
  refine ab (an ?_)
  refine SW_cut (J := fun s => s.t 0 = .v false [.dat (.sl (List.map M.IndexDef.en p0))] ∧ s.t 3 = .v false [.row 100007 1] ∧ s.t 4 = .v false [.dat (.int .i64 v4)] ∧ s.h 100007 = (1, .row 225 2 (List.map M.IndexDef.en (List.set r7 v4.toNat x18)) true) ∧ True) ?_ ?_
  · refine ⟨?_, ?_, ?_, ?_, trivial⟩ <;> (try simp +decide only [F, reduceIte, Nat.reduceAdd, M.IndexDef.en, f8, f9, f10, f11, b12, q15, q16, q17, q22, q23, q24])
  rintro s25 ⟨f26, f27, f28, f29, _⟩
  apply SW_run
  · simp +decide only [E, reduceIte, Nat.reduceAdd, Nat.reduceMul, L, b12, q15, q16, q17, q22, q23, q24, f26, f27, f28, f29]
    exact Is.mk _
  refine aft_i ⟨mL1, by omega, (IntKind.i64.wrap (v4 + 1)), (List.set r7 v4.toNat x18), ?_, ?_, ?_, ?_, h⟩
  all_goals simp +decide only [F, reduceIte, Nat.reduceAdd, M.IndexDef.en, b12, q15, q16, q17, q22, q23, q24, f26, f27, f28, f29]

set_option maxHeartbeats 4000000 in
theorem c_laws_toDatabase (p0 : M.Database) (r : M.Database) (h : m_laws_toDatabase p0 = some r) : SCalls Tryz.prog 121 [(true, M.Database.en p0)] [(true, [.ro (.str r.Name), .ro (.int .i64 r.Version), .own 60 3 (List.map M.Store.en r.Stores), .own 225 2 (List.map M.IndexDef.en r.Unique)])] := by
  unfold m_laws_toDatabase at h
  simp only [M.Database.en]
  refine scalls_n (N := 19) (vars := [.cell 2 55]) Tryz.func121 rfl rfl rfl (by decide +kernel) (Nat.le_of_ble_eq_true rfl) fun base wd => ?_
  refine sq ?_
  apply SW_run
  · simp +decide only [E, reduceIte, Nat.reduceAdd, Nat.reduceMul, L, ti55]
    exact Is.mk _
  refine an (sq ?_)
  apply SW_run
  · simp +decide only [E, reduceIte, Nat.reduceAdd, Nat.reduceMul, L, ti55]
    exact Is.mk _
  refine an (sq ?_)
  apply SW_run
  · simp +decide only [E, reduceIte, Nat.reduceAdd, Nat.reduceMul, L, ti9, ti30, ti55]
    exact Is.mk _
  refine an (sq ?_)
  apply SW_run
  · simp +decide only [E, reduceIte, Nat.reduceAdd, Nat.reduceMul, L, ti3, ti30, ti55]
    exact Is.mk _
  refine an (sq ?_)
  obtain ⟨x1, h2, h⟩ := bind_some h
  apply SW_run
  · simp +decide only [E, reduceIte, Nat.reduceAdd, Nat.reduceMul, L, ti27, ti30, ti52, ti55]
    refine ⟨_, c_laws_toStoreS p0.Stores x1 h2, ?_⟩
    try simp +decide only [E, reduceIte, Nat.reduceAdd, Nat.reduceMul, L, ti27, ti30, ti52, ti55]
    exact Is.mk _
  refine an (sq ?_)
  obtain ⟨x3, h4, h⟩ := bind_some h
  apply SW_run
  · simp +decide only [E, reduceIte, Nat.reduceAdd, Nat.reduceMul, L, ti28, ti30, ti53, ti55]
    refine ⟨_, c_laws_toIndexDefS p0.Unique x3 h4, ?_⟩
    try simp +decide only [E, reduceIte, Nat.reduceAdd, Nat.reduceMul, L, ti28, ti30, ti53, ti55]
    exact Is.mk _
  refine an (sq ?_)
  apply SW_run
  · simp +decide only [E, reduceIte, Nat.reduceAdd, Nat.reduceMul, L, ti55]
    exact Is.mk _
  refine an (rt ?_)
  cases h
  simp [Ret, ti55, M.IndexDef.en, M.Store.en]

set_option maxHeartbeats 4000000 in
theorem c_laws_toDisk (p0 : M.Disk) (r : M.Disk) (h : m_laws_toDisk p0 = some r) : SCalls Tryz.prog 51 [(true, M.Disk.en p0)] [(true, [.ro (.str r.Base.Name), .ro (.int .i64 r.Base.Version), .own 60 3 (List.map M.Store.en r.Base.Stores), .own 225 2 (List.map M.IndexDef.en r.Base.Unique), .own 5 1 (List.map enB r.Log), .ro (.int .i64 r.Count)])] := by
  unfold m_laws_toDisk at h
  simp only [M.Disk.en]
  refine scalls_n (N := 16) (vars := [.cell 2 57]) Tryz.func51 rfl rfl rfl (by decide +kernel) (Nat.le_of_ble_eq_true rfl) fun base wd => ?_
  refine sq ?_
  apply SW_run
  · simp +decide only [E, reduceIte, Nat.reduceAdd, Nat.reduceMul, L, ti57]
    exact Is.mk _
  refine an (sq ?_)
  apply SW_run
  · simp +decide only [E, reduceIte, Nat.reduceAdd, Nat.reduceMul, L, ti57]
    exact Is.mk _
  refine an (sq ?_)
  obtain ⟨x1, h2, h⟩ := bind_some h
  apply SW_run
  · simp +decide only [E, reduceIte, Nat.reduceAdd, Nat.reduceMul, L, ti30, ti33, ti55, ti57]
    refine ⟨_, c_laws_toDatabase p0.Base x1 h2, ?_⟩
    try simp +decide only [E, reduceIte, Nat.reduceAdd, Nat.reduceMul, L, ti30, ti33, ti55, ti57]
    exact Is.mk _
  refine an (sq ?_)
  obtain ⟨x3, h4, h⟩ := bind_some h
  apply SW_run
  · simp +decide only [E, reduceIte, Nat.reduceAdd, Nat.reduceMul, L, ti31, ti33, ti57]
    refine ⟨_, c_laws_toByteS p0.Log x3 h4, ?_⟩
    try simp +decide only [E, reduceIte, Nat.reduceAdd, Nat.reduceMul, L, ti31, ti33, ti57]
    exact Is.mk _
  refine an (sq ?_)
  apply SW_run
  · simp +decide only [E, reduceIte, Nat.reduceAdd, Nat.reduceMul, L, ti3, ti33, ti57]
    exact Is.mk _
  refine an (sq ?_)
  apply SW_run
  · simp +decide only [E, reduceIte, Nat.reduceAdd, Nat.reduceMul, L, ti57]
    exact Is.mk _
  refine an (rt ?_)
  cases h
  simp [Ret, ti57, M.IndexDef.en, M.Store.en, enB]

set_option maxHeartbeats 4000000 in
theorem c_laws_toWrite (p0 : M.Write) (r : M.Write) (h : m_laws_toWrite p0 = some r) : SCalls Tryz.prog 318 [(true, M.Write.en p0)] [(true, [.ro (.int .i64 r.Device), .ro (.int .i64 r.Seq), .ro (.int .i64 r.Key.Kind), .ro (.int .i64 r.Key.N), .ro (.str r.Key.Text), .ro (.str r.Field), .ro (.int .i64 r.N)])] := by
  unfold m_laws_toWrite at h
  simp only [M.Write.en]
  refine scalls_n (N := 21) (vars := [.cell 2 285]) Tryz.func318 rfl rfl rfl (by decide +kernel) (Nat.le_of_ble_eq_true rfl) fun base wd => ?_
  refine sq ?_
  apply SW_run
  · simp +decide only [E, reduceIte, Nat.reduceAdd, Nat.reduceMul, L, ti285]
    exact Is.mk _
  refine an (sq ?_)
  apply SW_run
  · simp +decide only [E, reduceIte, Nat.reduceAdd, Nat.reduceMul, L, ti285]
    exact Is.mk _
  refine an (sq ?_)
  apply SW_run
  · simp +decide only [E, reduceIte, Nat.reduceAdd, Nat.reduceMul, L, ti3, ti285, ti341]
    exact Is.mk _
  refine an (sq ?_)
  apply SW_run
  · simp +decide only [E, reduceIte, Nat.reduceAdd, Nat.reduceMul, L, ti3, ti285, ti341]
    exact Is.mk _
  refine an (sq ?_)
  obtain ⟨x1, h2, h⟩ := bind_some h
  apply SW_run
  · simp +decide only [E, reduceIte, Nat.reduceAdd, Nat.reduceMul, L, ti203, ti285, ti307, ti341]
    refine ⟨_, c_laws_toKey p0.Key x1 h2, ?_⟩
    try simp +decide only [E, reduceIte, Nat.reduceAdd, Nat.reduceMul, L, ti203, ti285, ti307, ti341]
    exact Is.mk _
  refine an (sq ?_)
  apply SW_run
  · simp +decide only [E, reduceIte, Nat.reduceAdd, Nat.reduceMul, L, ti9, ti285, ti341]
    exact Is.mk _
  refine an (sq ?_)
  apply SW_run
  · simp +decide only [E, reduceIte, Nat.reduceAdd, Nat.reduceMul, L, ti3, ti285, ti341]
    exact Is.mk _
  refine an (sq ?_)
  apply SW_run
  · simp +decide only [E, reduceIte, Nat.reduceAdd, Nat.reduceMul, L, ti285]
    exact Is.mk _
  refine an (rt ?_)
  cases h
  simp [Ret, ti285]

set_option maxHeartbeats 4000000 in
theorem c_laws_toWriteS (p0 : List M.Write) (r : (List M.Write)) (h : m_laws_toWriteS p0 = some r) : SCalls Tryz.prog 286 [(false, [.sl (List.map M.Write.en p0)])] [(false, [.own 285 7 (List.map M.Write.en r)])] := by
  unfold m_laws_toWriteS at h
  refine scalls_n (N := 23) (vars := [.tmp 2]) Tryz.func286 rfl rfl rfl (by decide +kernel) (Nat.le_of_ble_eq_true rfl) fun base wd => ?_
  refine sq ?_
  apply SW_run
  · simp +decide only [E, reduceIte, Nat.reduceAdd, Nat.reduceMul, L]
    exact Is.mk _
  refine an (sq ?_)
  obtain ⟨x1, h2, h⟩ := bind_some h
  apply SW_run
  · simp +decide only [E, reduceIte, Nat.reduceAdd, Nat.reduceMul, L, ti37, ti61, ti285, M.Write.en]
    refine ⟨mkL_must h2, ?_⟩
    try simp +decide only [E, reduceIte, Nat.reduceAdd, Nat.reduceMul, L, ti37, ti61, ti285, M.Write.en]
    exact Is.mk _
  refine an (sq (sq ?_))
  refine SW_cut (J := fun s => s.t 0 = .v false [.dat (.sl (List.map M.Write.en p0))] ∧ s.t 3 = .v false [.row 100007 1] ∧ s.h 100007 = (1, .row 285 7 (List.map M.Write.en (List.replicate (List.length p0 : Int).toNat (⟨0, 0, (⟨0, 0, (⟨#[]⟩ : ByteArray)⟩ : M.Key), (⟨#[]⟩ : ByteArray), 0⟩ : M.Write))) true) ∧ True) ?_ ?_
  · refine ⟨?_, ?_, ?_, trivial⟩ <;> (try simp +decide only [F, reduceIte, Nat.reduceAdd, M.Write.en])
  rintro s3 ⟨f4, f5, f6, _⟩
  apply SW_run
  · simp +decide only [E, reduceIte, Nat.reduceAdd, Nat.reduceMul, L, f4, f5, f6]
    exact Is.mk _
  refine an (bk ?_)
  refine SW_loop (fun m s => ∃ v4 : Int, ∃ r7 : List M.Write, s.t 0 = .v false [.dat (.sl (List.map M.Write.en p0))] ∧ s.t 3 = .v false [.row 100007 1] ∧ s.t 4 = .v false [.dat (.int .i64 v4)] ∧ s.h 100007 = (1, .row 285 7 (List.map M.Write.en r7) true) ∧ m_laws_toWriteS_L1 p0 m v4 r7 = some r) fuel ?_ ?_
  · refine ⟨0, (List.replicate (List.length p0 : Int).toNat (⟨0, 0, (⟨0, 0, (⟨#[]⟩ : ByteArray)⟩ : M.Key), (⟨#[]⟩ : ByteArray), 0⟩ : M.Write)), ?_, ?_, ?_, ?_, h⟩
    all_goals simp +decide only [F, reduceIte, Nat.reduceAdd, M.Write.en, f4, f5, f6]
  rintro mL1 s7 ⟨v4, r7, f8, f9, f10, f11, h⟩
  rcases mL1 with _ | mL1
  · exact absurd h (by simp [m_laws_toWriteS_L1])
  simp only [m_laws_toWriteS_L1] at h
  refine sq (sq ?_)
  apply SW_run
  · simp +decide only [E, reduceIte, Nat.reduceAdd, Nat.reduceMul, L, ti37, f8, f9, f10, f11]
    exact Is.mk _
  refine an ?_
  rcases bcas (decide (v4 < (List.length p0 : Int))) with b12 | b12
  · replace h := ite_f b12 h
    refine SW_cf (by simp +decide only [F, reduceIte, Nat.reduceAdd, f8, f9, f10, f11, b12]) ?_
    refine xt (aft_cx (aft_ix (aft_x (an (sq ?_)))))
    apply SW_run
    · simp +decide only [E, reduceIte, Nat.reduceAdd, Nat.reduceMul, L, f8, f9, f10, f11, b12]
      exact Is.mk _
    refine an (rt ?_)
    cases h
    simp [Ret, M.Write.en, f8, f9, f10, f11, b12]
  replace h := ite_t b12 h
  refine SW_ct (by simp +decide only [F, reduceIte, Nat.reduceAdd, f8, f9, f10, f11, b12]) ?_
  refine sk (an (sq (bk ?_)))
  obtain ⟨x13, h14, h⟩ := bind_some h
  obtain ⟨q15, q16, q17⟩ := idx_some h14
  obtain ⟨x18, h19, h⟩ := bind_some h
  obtain ⟨x20, h21, h⟩ := bind_some h
  obtain ⟨q22, q23, q24⟩ := idx_some h21
  apply SW_run
  · simp +decide only [E, reduceIte, Nat.reduceAdd, Nat.reduceMul, L, ti37, ti61, ti285, ti341, M.Write.en, f8, f9, f10, f11, b12, q15, q16, q17, q22, q23, q24]
    refine ⟨_, c_laws_toWrite x13 x18 h19, ?_⟩
    try simp +decide only [E, reduceIte, Nat.reduceAdd, Nat.reduceMul, L, ti37, ti61, ti285, ti341, M.Write.en, f8, f9, f10, f11, b12, q15, q16, q17, q22, q23, q24]
    exact Is.mk _
  refine ab (an ?_)
  refine SW_cut (J := fun s => s.t 0 = .v false [.dat (.sl (List.map M.Write.en p0))] ∧ s.t 3 = .v false [.row 100007 1] ∧ s.t 4 = .v false [.dat (.int .i64 v4)] ∧ s.h 100007 = (1, .row 285 7 (List.map M.Write.en (List.set r7 v4.toNat x18)) true) ∧ True) ?_ ?_
  · refine ⟨?_, ?_, ?_, ?_, trivial⟩ <;> (try simp +decide only [F, reduceIte, Nat.reduceAdd, M.Write.en, f8, f9, f10, f11, b12, q15, q16, q17, q22, q23, q24])
  rintro s25 ⟨f26, f27, f28, f29, _⟩
  apply SW_run
  · simp +decide only [E, reduceIte, Nat.reduceAdd, Nat.reduceMul, L, b12, q15, q16, q17, q22, q23, q24, f26, f27, f28, f29]
    exact Is.mk _
  refine aft_i ⟨mL1, by omega, (IntKind.i64.wrap (v4 + 1)), (List.set r7 v4.toNat x18), ?_, ?_, ?_, ?_, h⟩
  all_goals simp +decide only [F, reduceIte, Nat.reduceAdd, M.Write.en, b12, q15, q16, q17, q22, q23, q24, f26, f27, f28, f29]

set_option maxHeartbeats 4000000 in
theorem c_laws_toOutbox (p0 : M.Outbox) (r : M.Outbox) (h : m_laws_toOutbox p0 = some r) : SCalls Tryz.prog 220 [(true, M.Outbox.en p0)] [(true, [.ro (.int .i64 r.Device), .ro (.int .i64 r.Next), .own 285 7 (List.map M.Write.en r.Writes)])] := by
  unfold m_laws_toOutbox at h
  simp only [M.Outbox.en]
  refine scalls_n (N := 15) (vars := [.cell 2 63]) Tryz.func220 rfl rfl rfl (by decide +kernel) (Nat.le_of_ble_eq_true rfl) fun base wd => ?_
  refine sq ?_
  apply SW_run
  · simp +decide only [E, reduceIte, Nat.reduceAdd, Nat.reduceMul, L, ti63]
    exact Is.mk _
  refine an (sq ?_)
  apply SW_run
  · simp +decide only [E, reduceIte, Nat.reduceAdd, Nat.reduceMul, L, ti63]
    exact Is.mk _
  refine an (sq ?_)
  apply SW_run
  · simp +decide only [E, reduceIte, Nat.reduceAdd, Nat.reduceMul, L, ti3, ti39, ti63]
    exact Is.mk _
  refine an (sq ?_)
  apply SW_run
  · simp +decide only [E, reduceIte, Nat.reduceAdd, Nat.reduceMul, L, ti3, ti39, ti63]
    exact Is.mk _
  refine an (sq ?_)
  obtain ⟨x1, h2, h⟩ := bind_some h
  apply SW_run
  · simp +decide only [E, reduceIte, Nat.reduceAdd, Nat.reduceMul, L, ti37, ti39, ti61, ti63]
    refine ⟨_, c_laws_toWriteS p0.Writes x1 h2, ?_⟩
    try simp +decide only [E, reduceIte, Nat.reduceAdd, Nat.reduceMul, L, ti37, ti39, ti61, ti63]
    exact Is.mk _
  refine an (sq ?_)
  apply SW_run
  · simp +decide only [E, reduceIte, Nat.reduceAdd, Nat.reduceMul, L, ti63]
    exact Is.mk _
  refine an (rt ?_)
  cases h
  simp [Ret, ti63, M.Write.en]

set_option maxHeartbeats 4000000 in
theorem c_laws_toSync (p0 : M.Sync) (r : M.Sync) (h : m_laws_toSync p0 = some r) : SCalls Tryz.prog 143 [(true, M.Sync.en p0)] [(true, [.ro (.int .i64 r.Outbox.Device), .ro (.int .i64 r.Outbox.Next), .own 285 7 (List.map M.Write.en r.Outbox.Writes), .ro (.int .i64 r.Tries), .ro (.int .i64 r.WaitUntil)])] := by
  unfold m_laws_toSync at h
  simp only [M.Sync.en]
  refine scalls_n (N := 15) (vars := [.cell 2 65]) Tryz.func143 rfl rfl rfl (by decide +kernel) (Nat.le_of_ble_eq_true rfl) fun base wd => ?_
  refine sq ?_
  apply SW_run
  · simp +decide only [E, reduceIte, Nat.reduceAdd, Nat.reduceMul, L, ti65]
    exact Is.mk _
  refine an (sq ?_)
  apply SW_run
  · simp +decide only [E, reduceIte, Nat.reduceAdd, Nat.reduceMul, L, ti65]
    exact Is.mk _
  refine an (sq ?_)
  obtain ⟨x1, h2, h⟩ := bind_some h
  apply SW_run
  · simp +decide only [E, reduceIte, Nat.reduceAdd, Nat.reduceMul, L, ti39, ti41, ti63, ti65]
    refine ⟨_, c_laws_toOutbox p0.Outbox x1 h2, ?_⟩
    try simp +decide only [E, reduceIte, Nat.reduceAdd, Nat.reduceMul, L, ti39, ti41, ti63, ti65]
    exact Is.mk _
  refine an (sq ?_)
  apply SW_run
  · simp +decide only [E, reduceIte, Nat.reduceAdd, Nat.reduceMul, L, ti3, ti41, ti65]
    exact Is.mk _
  refine an (sq ?_)
  apply SW_run
  · simp +decide only [E, reduceIte, Nat.reduceAdd, Nat.reduceMul, L, ti3, ti41, ti65]
    exact Is.mk _
  refine an (sq ?_)
  apply SW_run
  · simp +decide only [E, reduceIte, Nat.reduceAdd, Nat.reduceMul, L, ti65]
    exact Is.mk _
  refine an (rt ?_)
  cases h
  simp [Ret, ti65, M.Write.en]

set_option maxHeartbeats 4000000 in
theorem c_laws_toReplica (p0 : M.Replica) (r : M.Replica) (h : m_laws_toReplica p0 = some r) : SCalls Tryz.prog 65 [(true, M.Replica.en p0)] [(true, [.ro (.str r.Base.Name), .own 208 4 (List.map M.Item.en r.Base.Items), .ro (.int .i64 r.Base.Auto), .ro (.int .i64 r.Seen), .ro (.int .i64 r.Sync.Outbox.Device), .ro (.int .i64 r.Sync.Outbox.Next), .own 285 7 (List.map M.Write.en r.Sync.Outbox.Writes), .ro (.int .i64 r.Sync.Tries), .ro (.int .i64 r.Sync.WaitUntil)])] := by
  unfold m_laws_toReplica at h
  simp only [M.Replica.en]
  refine scalls_n (N := 16) (vars := [.cell 2 67]) Tryz.func65 rfl rfl rfl (by decide +kernel) (Nat.le_of_ble_eq_true rfl) fun base wd => ?_
  refine sq ?_
  apply SW_run
  · simp +decide only [E, reduceIte, Nat.reduceAdd, Nat.reduceMul, L, ti67]
    exact Is.mk _
  refine an (sq ?_)
  apply SW_run
  · simp +decide only [E, reduceIte, Nat.reduceAdd, Nat.reduceMul, L, ti67]
    exact Is.mk _
  refine an (sq ?_)
  obtain ⟨x1, h2, h⟩ := bind_some h
  apply SW_run
  · simp +decide only [E, reduceIte, Nat.reduceAdd, Nat.reduceMul, L, ti36, ti43, ti60, ti67]
    refine ⟨_, c_laws_toStore p0.Base x1 h2, ?_⟩
    try simp +decide only [E, reduceIte, Nat.reduceAdd, Nat.reduceMul, L, ti36, ti43, ti60, ti67]
    exact Is.mk _
  refine an (sq ?_)
  apply SW_run
  · simp +decide only [E, reduceIte, Nat.reduceAdd, Nat.reduceMul, L, ti3, ti43, ti67]
    exact Is.mk _
  refine an (sq ?_)
  obtain ⟨x3, h4, h⟩ := bind_some h
  apply SW_run
  · simp +decide only [E, reduceIte, Nat.reduceAdd, Nat.reduceMul, L, ti41, ti43, ti65, ti67]
    refine ⟨_, c_laws_toSync p0.Sync x3 h4, ?_⟩
    try simp +decide only [E, reduceIte, Nat.reduceAdd, Nat.reduceMul, L, ti41, ti43, ti65, ti67]
    exact Is.mk _
  refine an (sq ?_)
  apply SW_run
  · simp +decide only [E, reduceIte, Nat.reduceAdd, Nat.reduceMul, L, ti67]
    exact Is.mk _
  refine an (rt ?_)
  cases h
  simp [Ret, ti67, M.Item.en, M.Write.en]

set_option maxHeartbeats 4000000 in
theorem c_laws_toBucket (p0 : M.Bucket) (r : M.Bucket) (h : m_laws_toBucket p0 = some r) : SCalls Tryz.prog 16 [(true, M.Bucket.en p0)] [(true, [.ro (.str r.Site), .ro (.str r.Top), .ro (.str r.Registration.Site), .ro (.int .i64 r.Registration.Installing), .ro (.int .i64 r.Registration.Waiting), .ro (.int .i64 r.Registration.Active), .own 185 2 (List.map M.Cache.en r.Caches.Caches), .ro (.str r.Disk.Base.Name), .ro (.int .i64 r.Disk.Base.Version), .own 60 3 (List.map M.Store.en r.Disk.Base.Stores), .own 225 2 (List.map M.IndexDef.en r.Disk.Base.Unique), .own 5 1 (List.map enB r.Disk.Log), .ro (.int .i64 r.Disk.Count), .ro (.str r.Replica.Base.Name), .own 208 4 (List.map M.Item.en r.Replica.Base.Items), .ro (.int .i64 r.Replica.Base.Auto), .ro (.int .i64 r.Replica.Seen), .ro (.int .i64 r.Replica.Sync.Outbox.Device), .ro (.int .i64 r.Replica.Sync.Outbox.Next), .own 285 7 (List.map M.Write.en r.Replica.Sync.Outbox.Writes), .ro (.int .i64 r.Replica.Sync.Tries), .ro (.int .i64 r.Replica.Sync.WaitUntil), .ro (.int .i64 r.LastUsed), .ro (.bool r.Persistent)])] := by
  unfold m_laws_toBucket at h
  simp only [M.Bucket.en]
  refine scalls_n (N := 33) (vars := [.cell 2 69]) Tryz.func16 rfl rfl rfl (by decide +kernel) (Nat.le_of_ble_eq_true rfl) fun base wd => ?_
  refine sq ?_
  apply SW_run
  · simp +decide only [E, reduceIte, Nat.reduceAdd, Nat.reduceMul, L, ti69]
    exact Is.mk _
  refine an (sq ?_)
  apply SW_run
  · simp +decide only [E, reduceIte, Nat.reduceAdd, Nat.reduceMul, L, ti69]
    exact Is.mk _
  refine an (sq ?_)
  apply SW_run
  · simp +decide only [E, reduceIte, Nat.reduceAdd, Nat.reduceMul, L, ti9, ti45, ti69]
    exact Is.mk _
  refine an (sq ?_)
  apply SW_run
  · simp +decide only [E, reduceIte, Nat.reduceAdd, Nat.reduceMul, L, ti9, ti45, ti69]
    exact Is.mk _
  refine an (sq ?_)
  obtain ⟨x1, h2, h⟩ := bind_some h
  apply SW_run
  · simp +decide only [E, reduceIte, Nat.reduceAdd, Nat.reduceMul, L, ti23, ti45, ti48, ti69]
    refine ⟨_, c_laws_toRegistration p0.Registration x1 h2, ?_⟩
    try simp +decide only [E, reduceIte, Nat.reduceAdd, Nat.reduceMul, L, ti23, ti45, ti48, ti69]
    exact Is.mk _
  refine an (sq ?_)
  obtain ⟨x3, h4, h⟩ := bind_some h
  apply SW_run
  · simp +decide only [E, reduceIte, Nat.reduceAdd, Nat.reduceMul, L, ti26, ti45, ti51, ti69]
    refine ⟨_, c_laws_toCacheSet p0.Caches x3 h4, ?_⟩
    try simp +decide only [E, reduceIte, Nat.reduceAdd, Nat.reduceMul, L, ti26, ti45, ti51, ti69]
    exact Is.mk _
  refine an (sq ?_)
  obtain ⟨x5, h6, h⟩ := bind_some h
  apply SW_run
  · simp +decide only [E, reduceIte, Nat.reduceAdd, Nat.reduceMul, L, ti33, ti45, ti57, ti69]
    refine ⟨_, c_laws_toDisk p0.Disk x5 h6, ?_⟩
    try simp +decide only [E, reduceIte, Nat.reduceAdd, Nat.reduceMul, L, ti33, ti45, ti57, ti69]
    exact Is.mk _
  refine an (sq ?_)
  obtain ⟨x7, h8, h⟩ := bind_some h
  apply SW_run
  · simp +decide only [E, reduceIte, Nat.reduceAdd, Nat.reduceMul, L, ti43, ti45, ti67, ti69]
    refine ⟨_, c_laws_toReplica p0.Replica x7 h8, ?_⟩
    try simp +decide only [E, reduceIte, Nat.reduceAdd, Nat.reduceMul, L, ti43, ti45, ti67, ti69]
    exact Is.mk _
  refine an (sq ?_)
  apply SW_run
  · simp +decide only [E, reduceIte, Nat.reduceAdd, Nat.reduceMul, L, ti3, ti45, ti69]
    exact Is.mk _
  refine an (sq ?_)
  apply SW_run
  · simp +decide only [E, reduceIte, Nat.reduceAdd, Nat.reduceMul, L, ti4, ti45, ti69]
    exact Is.mk _
  refine an (sq ?_)
  apply SW_run
  · simp +decide only [E, reduceIte, Nat.reduceAdd, Nat.reduceMul, L, ti69]
    exact Is.mk _
  refine an (rt ?_)
  cases h
  simp [Ret, ti69, M.Cache.en, M.IndexDef.en, M.Item.en, M.Store.en, M.Write.en, enB]

end Go.Proofs.YtgpiencmneiblaaGreat.gen
