/-
  Helper text: walks: each function's contract out of its model. No conditions beyond those of each contract.
-/
import Derived.Test.YtgemmnkhddlhpaaGreatEqualWorldsTi
import Derived.Test.YtgemmnkhddlhpaaGreatEqualWorldsWto0
namespace Go.Proofs.YtgemmnkhddlhpaaGreat.gen
open Go Go.Sh
set_option linter.unusedVariables false
set_option linter.unusedSimpArgs false
set_option maxRecDepth 20000 in
set_option maxHeartbeats 4000000 in
theorem c_laws_toReplica (p0 : M.Replica) (r : M.Replica) (h : m_laws_toReplica p0 = some r) : SCalls Tryz.prog 30 [(true, M.Replica.en p0)] [(true, [.ro (.str r.Base.Name), .own 315 4 (List.map M.Item.en r.Base.Items), .ro (.int .i64 r.Base.Auto), .ro (.int .i64 r.Seen), .ro (.int .i64 r.Sync.Outbox.Device), .ro (.int .i64 r.Sync.Outbox.Next), .own 261 7 (List.map M.Write.en r.Sync.Outbox.Writes), .ro (.int .i64 r.Sync.Tries), .ro (.int .i64 r.Sync.WaitUntil)])] := by
  unfold m_laws_toReplica at h
  simp only [M.Replica.en]
  refine scalls_n (N := 16) (vars := [.cell 2 43]) Tryz.func30 rfl rfl rfl (by decide +kernel) (Nat.le_of_ble_eq_true rfl) fun base wd => ?_
  refine sq (rn ?_)
  refine an (sq (rn ?_))
  refine an (sq ?_)
  obtain ⟨x1, h2, h⟩ := bind_some h
  refine rn1 (c_laws_toStore _ _ h2) ?_
  refine an (sq (rn ?_))
  refine an (sq ?_)
  obtain ⟨x3, h4, h⟩ := bind_some h
  refine rn1 (c_laws_toSync _ _ h4) ?_
  refine an (sq (rn ?_))
  refine an (rt ?_)
  cases h
  simp [Ret, TB, EN, *]

set_option maxRecDepth 20000 in
set_option maxHeartbeats 4000000 in
theorem c_laws_toBucket (p0 : M.Bucket) (r : M.Bucket) (h : m_laws_toBucket p0 = some r) : SCalls Tryz.prog 23 [(true, M.Bucket.en p0)] [(true, [.ro (.str r.Site), .ro (.str r.Top), .ro (.str r.Registration.Site), .ro (.int .i64 r.Registration.Installing), .ro (.int .i64 r.Registration.Waiting), .ro (.int .i64 r.Registration.Active), .own 297 2 (List.map M.Cache.en r.Caches.Caches), .ro (.str r.Disk.Base.Name), .ro (.int .i64 r.Disk.Base.Version), .own 36 3 (List.map M.Store.en r.Disk.Base.Stores), .own 337 2 (List.map M.IndexDef.en r.Disk.Base.Unique), .own 5 1 (List.map enB r.Disk.Log), .ro (.int .i64 r.Disk.Count), .ro (.str r.Replica.Base.Name), .own 315 4 (List.map M.Item.en r.Replica.Base.Items), .ro (.int .i64 r.Replica.Base.Auto), .ro (.int .i64 r.Replica.Seen), .ro (.int .i64 r.Replica.Sync.Outbox.Device), .ro (.int .i64 r.Replica.Sync.Outbox.Next), .own 261 7 (List.map M.Write.en r.Replica.Sync.Outbox.Writes), .ro (.int .i64 r.Replica.Sync.Tries), .ro (.int .i64 r.Replica.Sync.WaitUntil), .ro (.int .i64 r.LastUsed), .ro (.bool r.Persistent)])] := by
  unfold m_laws_toBucket at h
  simp only [M.Bucket.en]
  refine scalls_n (N := 33) (vars := [.cell 2 45]) Tryz.func23 rfl rfl rfl (by decide +kernel) (Nat.le_of_ble_eq_true rfl) fun base wd => ?_
  refine sq (rn ?_)
  refine an (sq (rn ?_))
  refine an (sq (rn ?_))
  refine an (sq (rn ?_))
  refine an (sq ?_)
  obtain ⟨x1, h2, h⟩ := bind_some h
  refine rn1 (c_laws_toRegistration _ _ h2) ?_
  refine an (sq ?_)
  obtain ⟨x3, h4, h⟩ := bind_some h
  refine rn1 (c_laws_toCacheSet _ _ h4) ?_
  refine an (sq ?_)
  obtain ⟨x5, h6, h⟩ := bind_some h
  refine rn1 (c_laws_toDisk _ _ h6) ?_
  refine an (sq ?_)
  obtain ⟨x7, h8, h⟩ := bind_some h
  refine rn1 (c_laws_toReplica _ _ h8) ?_
  refine an (sq (rn ?_))
  refine an (sq (rn ?_))
  refine an (sq (rn ?_))
  refine an (rt ?_)
  cases h
  simp [Ret, TB, EN, *]

set_option maxRecDepth 20000 in
set_option maxHeartbeats 4000000 in
theorem c_laws_toBucketS (p0 : List M.Bucket) (r : (List M.Bucket)) (h : m_laws_toBucketS p0 = some r) : SCalls Tryz.prog 121 [(false, [.sl (List.map M.Bucket.en p0)])] [(false, [.own 45 24 (List.map M.Bucket.en r)])] := by
  unfold m_laws_toBucketS at h
  refine scalls_n (N := 23) (vars := [.tmp 2]) Tryz.func121 rfl rfl rfl (by decide +kernel) (Nat.le_of_ble_eq_true rfl) fun base wd => ?_
  refine sq (rn ?_)
  refine an (sq ?_)
  obtain ⟨x1, h2, h⟩ := bind_some h
  refine rn1 (mkL_must h2) ?_
  refine an (sq (sq ?_))
  refine cu (fun s => s.t 0 = .v false [.dat (.sl (List.map M.Bucket.en p0))] ∧ s.t 3 = .v false [.row 100007 1] ∧ s.h 100007 = (1, .row 45 24 (List.map M.Bucket.en (List.replicate (List.length p0 : Int).toNat (⟨(⟨#[]⟩ : ByteArray), (⟨#[]⟩ : ByteArray), (⟨(⟨#[]⟩ : ByteArray), 0, 0, 0⟩ : M.Registration), (⟨([] : List M.Cache)⟩ : M.CacheSet), (⟨(⟨(⟨#[]⟩ : ByteArray), 0, ([] : List M.Store), ([] : List M.IndexDef)⟩ : M.Database), ([] : List Int), 0⟩ : M.Disk), (⟨(⟨(⟨#[]⟩ : ByteArray), ([] : List M.Item), 0⟩ : M.Store), 0, (⟨(⟨0, 0, ([] : List M.Write)⟩ : M.Outbox), 0, 0⟩ : M.Sync)⟩ : M.Replica), 0, false⟩ : M.Bucket))) true) ∧ True) ?_
  rintro s3 ⟨f4, f5, f6, _⟩
  refine rn ?_
  refine an (bk ?_)
  refine SW_loop (fun m s => ∃ v4 : Int, ∃ r7 : List M.Bucket, s.t 0 = .v false [.dat (.sl (List.map M.Bucket.en p0))] ∧ s.t 3 = .v false [.row 100007 1] ∧ s.t 4 = .v false [.dat (.int .i64 v4)] ∧ s.h 100007 = (1, .row 45 24 (List.map M.Bucket.en r7) true) ∧ m_laws_toBucketS_L1 p0 m v4 r7 = some r) fuel ?_ ?_
  · refine ⟨0, (List.replicate (List.length p0 : Int).toNat (⟨(⟨#[]⟩ : ByteArray), (⟨#[]⟩ : ByteArray), (⟨(⟨#[]⟩ : ByteArray), 0, 0, 0⟩ : M.Registration), (⟨([] : List M.Cache)⟩ : M.CacheSet), (⟨(⟨(⟨#[]⟩ : ByteArray), 0, ([] : List M.Store), ([] : List M.IndexDef)⟩ : M.Database), ([] : List Int), 0⟩ : M.Disk), (⟨(⟨(⟨#[]⟩ : ByteArray), ([] : List M.Item), 0⟩ : M.Store), 0, (⟨(⟨0, 0, ([] : List M.Write)⟩ : M.Outbox), 0, 0⟩ : M.Sync)⟩ : M.Replica), 0, false⟩ : M.Bucket)), ?_, ?_, ?_, ?_, h⟩
    all_goals simp +decide only [F, reduceIte, Nat.reduceAdd, Bool.not_true, Bool.not_false, EN, *, -h]
  rintro mL1 s7 ⟨v4, r7, f8, f9, f10, f11, h⟩
  rcases mL1 with _ | mL1
  · exact absurd h (by simp [m_laws_toBucketS_L1])
  simp only [m_laws_toBucketS_L1] at h
  refine sq (sq (rn ?_))
  refine an ?_
  rcases bcas (decide (v4 < (List.length p0 : Int))) with b12 | b12
  · replace h := ite_f b12 h
    refine cf (xt (aft_cx (aft_ix (aft_x (an (sq (rn ?_)))))))
    refine an (rt ?_)
    cases h
    simp [Ret, TB, EN, *]
  replace h := ite_t b12 h
  refine ct (sk (an (sq (bk ?_))))
  obtain ⟨x13, h14, h⟩ := bind_some h
  obtain ⟨q15, q16, q17⟩ := idx_some h14
  obtain ⟨x18, h19, h⟩ := bind_some h
  obtain ⟨x20, h21, h⟩ := bind_some h
  obtain ⟨q22, q23, q24⟩ := idx_some h21
  refine rn1 (c_laws_toBucket _ _ h19) ?_
  refine ab (an ?_)
  refine cu (fun s => s.t 0 = .v false [.dat (.sl (List.map M.Bucket.en p0))] ∧ s.t 3 = .v false [.row 100007 1] ∧ s.t 4 = .v false [.dat (.int .i64 v4)] ∧ s.h 100007 = (1, .row 45 24 (List.map M.Bucket.en (List.set r7 v4.toNat x18)) true) ∧ True) ?_
  rintro s25 ⟨f26, f27, f28, f29, _⟩
  refine rn ?_
  refine aft_i ⟨mL1, by omega, (IntKind.i64.wrap (v4 + 1)), (List.set r7 v4.toNat x18), ?_, ?_, ?_, ?_, h⟩
  all_goals simp +decide only [F, reduceIte, Nat.reduceAdd, Bool.not_true, Bool.not_false, EN, *, -h]

set_option maxRecDepth 20000 in
set_option maxHeartbeats 4000000 in
theorem c_laws_toStorage (p0 : M.Storage) (r : M.Storage) (h : m_laws_toStorage p0 = some r) : SCalls Tryz.prog 44 [(true, M.Storage.en p0)] [(true, [.own 45 24 (List.map M.Bucket.en r.Buckets)])] := by
  unfold m_laws_toStorage at h
  simp only [M.Storage.en]
  refine scalls_n (N := 9) (vars := [.cell 2 69]) Tryz.func44 rfl rfl rfl (by decide +kernel) (Nat.le_of_ble_eq_true rfl) fun base wd => ?_
  refine sq (rn ?_)
  refine an (sq (rn ?_))
  refine an (sq ?_)
  obtain ⟨x1, h2, h⟩ := bind_some h
  refine rn1 (c_laws_toBucketS _ _ h2) ?_
  refine an (sq (rn ?_))
  refine an (rt ?_)
  cases h
  simp [Ret, TB, EN, *]

set_option maxRecDepth 20000 in
set_option maxHeartbeats 4000000 in
theorem c_laws_toLoaded (p0 : M.Loaded) (r : M.Loaded) (h : m_laws_toLoaded p0 = some r) : SCalls Tryz.prog 233 [(true, M.Loaded.en p0)] [(true, [.ro (.str r.Path), .ro (.int .i64 r.Version)])] := by
  unfold m_laws_toLoaded at h
  simp only [M.Loaded.en]
  refine scalls_n (N := 11) (vars := [.cell 2 268]) Tryz.func233 rfl rfl rfl (by decide +kernel) (Nat.le_of_ble_eq_true rfl) fun base wd => ?_
  refine sq (rn ?_)
  refine an (sq (rn ?_))
  refine an (sq (rn ?_))
  refine an (sq (rn ?_))
  refine an (sq (rn ?_))
  refine an (rt ?_)
  cases h
  simp [Ret, TB, EN, *]

set_option maxRecDepth 20000 in
set_option maxHeartbeats 4000000 in
theorem c_laws_toLoadedS (p0 : List M.Loaded) (r : (List M.Loaded)) (h : m_laws_toLoadedS p0 = some r) : SCalls Tryz.prog 136 [(false, [.sl (List.map M.Loaded.en p0)])] [(false, [.own 268 2 (List.map M.Loaded.en r)])] := by
  unfold m_laws_toLoadedS at h
  refine scalls_n (N := 23) (vars := [.tmp 2]) Tryz.func136 rfl rfl rfl (by decide +kernel) (Nat.le_of_ble_eq_true rfl) fun base wd => ?_
  refine sq (rn ?_)
  refine an (sq ?_)
  obtain ⟨x1, h2, h⟩ := bind_some h
  refine rn1 (mkL_must h2) ?_
  refine an (sq (sq ?_))
  refine cu (fun s => s.t 0 = .v false [.dat (.sl (List.map M.Loaded.en p0))] ∧ s.t 3 = .v false [.row 100007 1] ∧ s.h 100007 = (1, .row 268 2 (List.map M.Loaded.en (List.replicate (List.length p0 : Int).toNat (⟨(⟨#[]⟩ : ByteArray), 0⟩ : M.Loaded))) true) ∧ True) ?_
  rintro s3 ⟨f4, f5, f6, _⟩
  refine rn ?_
  refine an (bk ?_)
  refine SW_loop (fun m s => ∃ v4 : Int, ∃ r7 : List M.Loaded, s.t 0 = .v false [.dat (.sl (List.map M.Loaded.en p0))] ∧ s.t 3 = .v false [.row 100007 1] ∧ s.t 4 = .v false [.dat (.int .i64 v4)] ∧ s.h 100007 = (1, .row 268 2 (List.map M.Loaded.en r7) true) ∧ m_laws_toLoadedS_L1 p0 m v4 r7 = some r) fuel ?_ ?_
  · refine ⟨0, (List.replicate (List.length p0 : Int).toNat (⟨(⟨#[]⟩ : ByteArray), 0⟩ : M.Loaded)), ?_, ?_, ?_, ?_, h⟩
    all_goals simp +decide only [F, reduceIte, Nat.reduceAdd, Bool.not_true, Bool.not_false, EN, *, -h]
  rintro mL1 s7 ⟨v4, r7, f8, f9, f10, f11, h⟩
  rcases mL1 with _ | mL1
  · exact absurd h (by simp [m_laws_toLoadedS_L1])
  simp only [m_laws_toLoadedS_L1] at h
  refine sq (sq (rn ?_))
  refine an ?_
  rcases bcas (decide (v4 < (List.length p0 : Int))) with b12 | b12
  · replace h := ite_f b12 h
    refine cf (xt (aft_cx (aft_ix (aft_x (an (sq (rn ?_)))))))
    refine an (rt ?_)
    cases h
    simp [Ret, TB, EN, *]
  replace h := ite_t b12 h
  refine ct (sk (an (sq (bk ?_))))
  obtain ⟨x13, h14, h⟩ := bind_some h
  obtain ⟨q15, q16, q17⟩ := idx_some h14
  obtain ⟨x18, h19, h⟩ := bind_some h
  obtain ⟨x20, h21, h⟩ := bind_some h
  obtain ⟨q22, q23, q24⟩ := idx_some h21
  refine rn1 (c_laws_toLoaded _ _ h19) ?_
  refine ab (an ?_)
  refine cu (fun s => s.t 0 = .v false [.dat (.sl (List.map M.Loaded.en p0))] ∧ s.t 3 = .v false [.row 100007 1] ∧ s.t 4 = .v false [.dat (.int .i64 v4)] ∧ s.h 100007 = (1, .row 268 2 (List.map M.Loaded.en (List.set r7 v4.toNat x18)) true) ∧ True) ?_
  rintro s25 ⟨f26, f27, f28, f29, _⟩
  refine rn ?_
  refine aft_i ⟨mL1, by omega, (IntKind.i64.wrap (v4 + 1)), (List.set r7 v4.toNat x18), ?_, ?_, ?_, ?_, h⟩
  all_goals simp +decide only [F, reduceIte, Nat.reduceAdd, Bool.not_true, Bool.not_false, EN, *, -h]

set_option maxRecDepth 20000 in
set_option maxHeartbeats 4000000 in
theorem c_laws_toInstr (p0 : M.Instr) (r : M.Instr) (h : m_laws_toInstr p0 = some r) : SCalls Tryz.prog 315 [(true, M.Instr.en p0)] [(true, [.ro (.int .i64 r.Kind), .ro (.int .i64 r.R), .ro (.int .i64 r.N), .ro (.str r.Text)])] := by
  unfold m_laws_toInstr at h
  simp only [M.Instr.en]
  refine scalls_n (N := 17) (vars := [.cell 2 364]) Tryz.func315 rfl rfl rfl (by decide +kernel) (Nat.le_of_ble_eq_true rfl) fun base wd => ?_
  refine sq (rn ?_)
  refine an (sq (rn ?_))
  refine an (sq (rn ?_))
  refine an (sq (rn ?_))
  refine an (sq (rn ?_))
  refine an (sq (rn ?_))
  refine an (sq (rn ?_))
  refine an (rt ?_)
  cases h
  simp [Ret, TB, EN, *]

set_option maxRecDepth 20000 in
set_option maxHeartbeats 4000000 in
theorem c_laws_toInstrS (p0 : List M.Instr) (r : (List M.Instr)) (h : m_laws_toInstrS p0 = some r) : SCalls Tryz.prog 234 [(false, [.sl (List.map M.Instr.en p0)])] [(false, [.own 364 4 (List.map M.Instr.en r)])] := by
  unfold m_laws_toInstrS at h
  refine scalls_n (N := 23) (vars := [.tmp 2]) Tryz.func234 rfl rfl rfl (by decide +kernel) (Nat.le_of_ble_eq_true rfl) fun base wd => ?_
  refine sq (rn ?_)
  refine an (sq ?_)
  obtain ⟨x1, h2, h⟩ := bind_some h
  refine rn1 (mkL_must h2) ?_
  refine an (sq (sq ?_))
  refine cu (fun s => s.t 0 = .v false [.dat (.sl (List.map M.Instr.en p0))] ∧ s.t 3 = .v false [.row 100007 1] ∧ s.h 100007 = (1, .row 364 4 (List.map M.Instr.en (List.replicate (List.length p0 : Int).toNat (⟨0, 0, 0, (⟨#[]⟩ : ByteArray)⟩ : M.Instr))) true) ∧ True) ?_
  rintro s3 ⟨f4, f5, f6, _⟩
  refine rn ?_
  refine an (bk ?_)
  refine SW_loop (fun m s => ∃ v4 : Int, ∃ r7 : List M.Instr, s.t 0 = .v false [.dat (.sl (List.map M.Instr.en p0))] ∧ s.t 3 = .v false [.row 100007 1] ∧ s.t 4 = .v false [.dat (.int .i64 v4)] ∧ s.h 100007 = (1, .row 364 4 (List.map M.Instr.en r7) true) ∧ m_laws_toInstrS_L1 p0 m v4 r7 = some r) fuel ?_ ?_
  · refine ⟨0, (List.replicate (List.length p0 : Int).toNat (⟨0, 0, 0, (⟨#[]⟩ : ByteArray)⟩ : M.Instr)), ?_, ?_, ?_, ?_, h⟩
    all_goals simp +decide only [F, reduceIte, Nat.reduceAdd, Bool.not_true, Bool.not_false, EN, *, -h]
  rintro mL1 s7 ⟨v4, r7, f8, f9, f10, f11, h⟩
  rcases mL1 with _ | mL1
  · exact absurd h (by simp [m_laws_toInstrS_L1])
  simp only [m_laws_toInstrS_L1] at h
  refine sq (sq (rn ?_))
  refine an ?_
  rcases bcas (decide (v4 < (List.length p0 : Int))) with b12 | b12
  · replace h := ite_f b12 h
    refine cf (xt (aft_cx (aft_ix (aft_x (an (sq (rn ?_)))))))
    refine an (rt ?_)
    cases h
    simp [Ret, TB, EN, *]
  replace h := ite_t b12 h
  refine ct (sk (an (sq (bk ?_))))
  obtain ⟨x13, h14, h⟩ := bind_some h
  obtain ⟨q15, q16, q17⟩ := idx_some h14
  obtain ⟨x18, h19, h⟩ := bind_some h
  obtain ⟨x20, h21, h⟩ := bind_some h
  obtain ⟨q22, q23, q24⟩ := idx_some h21
  refine rn1 (c_laws_toInstr _ _ h19) ?_
  refine ab (an ?_)
  refine cu (fun s => s.t 0 = .v false [.dat (.sl (List.map M.Instr.en p0))] ∧ s.t 3 = .v false [.row 100007 1] ∧ s.t 4 = .v false [.dat (.int .i64 v4)] ∧ s.h 100007 = (1, .row 364 4 (List.map M.Instr.en (List.set r7 v4.toNat x18)) true) ∧ True) ?_
  rintro s25 ⟨f26, f27, f28, f29, _⟩
  refine rn ?_
  refine aft_i ⟨mL1, by omega, (IntKind.i64.wrap (v4 + 1)), (List.set r7 v4.toNat x18), ?_, ?_, ?_, ?_, h⟩
  all_goals simp +decide only [F, reduceIte, Nat.reduceAdd, Bool.not_true, Bool.not_false, EN, *, -h]

set_option maxRecDepth 20000 in
set_option maxHeartbeats 4000000 in
theorem c_laws_toIntS (p0 : List Int) (r : (List Int)) (h : m_laws_toIntS p0 = some r) : SCalls Tryz.prog 235 [(false, [.sl (List.map enI p0)])] [(false, [.own 3 1 (List.map enI r)])] := by
  unfold m_laws_toIntS at h
  refine scalls_n (N := 22) (vars := [.tmp 2]) Tryz.func235 rfl rfl rfl (by decide +kernel) (Nat.le_of_ble_eq_true rfl) fun base wd => ?_
  refine sq (rn ?_)
  refine an (sq ?_)
  obtain ⟨x1, h2, h⟩ := bind_some h
  refine rn1 (mkL_must h2) ?_
  refine an (sq (sq ?_))
  refine cu (fun s => s.t 0 = .v false [.dat (.sl (List.map enI p0))] ∧ s.t 3 = .v false [.row 100007 1] ∧ s.h 100007 = (1, .row 3 1 (List.map enI (List.replicate (List.length p0 : Int).toNat 0)) true) ∧ True) ?_
  rintro s3 ⟨f4, f5, f6, _⟩
  refine rn ?_
  refine an (bk ?_)
  refine SW_loop (fun m s => ∃ v4 : Int, ∃ r7 : List Int, s.t 0 = .v false [.dat (.sl (List.map enI p0))] ∧ s.t 3 = .v false [.row 100007 1] ∧ s.t 4 = .v false [.dat (.int .i64 v4)] ∧ s.h 100007 = (1, .row 3 1 (List.map enI r7) true) ∧ m_laws_toIntS_L1 p0 m v4 r7 = some r) fuel ?_ ?_
  · refine ⟨0, (List.replicate (List.length p0 : Int).toNat 0), ?_, ?_, ?_, ?_, h⟩
    all_goals simp +decide only [F, reduceIte, Nat.reduceAdd, Bool.not_true, Bool.not_false, EN, *, -h]
  rintro mL1 s7 ⟨v4, r7, f8, f9, f10, f11, h⟩
  rcases mL1 with _ | mL1
  · exact absurd h (by simp [m_laws_toIntS_L1])
  simp only [m_laws_toIntS_L1] at h
  refine sq (sq (rn ?_))
  refine an ?_
  rcases bcas (decide (v4 < (List.length p0 : Int))) with b12 | b12
  · replace h := ite_f b12 h
    refine cf (xt (aft_cx (aft_ix (aft_x (an (sq (rn ?_)))))))
    refine an (rt ?_)
    cases h
    simp [Ret, TB, EN, *]
  replace h := ite_t b12 h
  refine ct (sk (an (sq (bk ?_))))
  obtain ⟨x13, h14, h⟩ := bind_some h
  obtain ⟨q15, q16, q17⟩ := idx_some h14
  obtain ⟨x18, h19, h⟩ := bind_some h
  obtain ⟨q20, q21, q22⟩ := idx_some h19
  refine rn ?_
  refine ab (an ?_)
  refine cu (fun s => s.t 0 = .v false [.dat (.sl (List.map enI p0))] ∧ s.t 3 = .v false [.row 100007 1] ∧ s.t 4 = .v false [.dat (.int .i64 v4)] ∧ s.h 100007 = (1, .row 3 1 (List.map enI (List.set r7 v4.toNat x13)) true) ∧ True) ?_
  rintro s23 ⟨f24, f25, f26, f27, _⟩
  refine rn ?_
  refine aft_i ⟨mL1, by omega, (IntKind.i64.wrap (v4 + 1)), (List.set r7 v4.toNat x13), ?_, ?_, ?_, ?_, h⟩
  all_goals simp +decide only [F, reduceIte, Nat.reduceAdd, Bool.not_true, Bool.not_false, EN, *, -h]

set_option maxRecDepth 20000 in
set_option maxHeartbeats 4000000 in
theorem c_laws_toMachine (p0 : M.Machine) (r : M.Machine) (h : m_laws_toMachine p0 = some r) : SCalls Tryz.prog 137 [(true, M.Machine.en p0)] [(true, [.own 364 4 (List.map M.Instr.en r.Script), .ro (.int .i64 r.Pc), .own 3 1 (List.map enI r.Regs), .ro (.int .i64 r.Steps), .ro (.bool r.Done), .ro (.bool r.Wait)])] := by
  unfold m_laws_toMachine at h
  simp only [M.Machine.en]
  refine scalls_n (N := 25) (vars := [.cell 2 146]) Tryz.func137 rfl rfl rfl (by decide +kernel) (Nat.le_of_ble_eq_true rfl) fun base wd => ?_
  refine sq (rn ?_)
  refine an (sq (rn ?_))
  refine an (sq ?_)
  obtain ⟨x1, h2, h⟩ := bind_some h
  refine rn1 (c_laws_toInstrS _ _ h2) ?_
  refine an (sq (rn ?_))
  refine an (sq ?_)
  obtain ⟨x3, h4, h⟩ := bind_some h
  refine rn1 (c_laws_toIntS _ _ h4) ?_
  refine an (sq (rn ?_))
  refine an (sq (rn ?_))
  refine an (sq (rn ?_))
  refine an (sq (rn ?_))
  refine an (rt ?_)
  cases h
  simp [Ret, TB, EN, *]

set_option maxRecDepth 20000 in
set_option maxHeartbeats 4000000 in
theorem c_laws_toPage (p0 : M.Page) (r : M.Page) (h : m_laws_toPage p0 = some r) : SCalls Tryz.prog 51 [(true, M.Page.en p0)] [(true, [.ro (.int .i64 r.Id), .ro (.str r.Site), .ro (.str r.Top), .ro (.int .i64 r.Version), .own 268 2 (List.map M.Loaded.en r.Loaded), .own 364 4 (List.map M.Instr.en r.Machine.Script), .ro (.int .i64 r.Machine.Pc), .own 3 1 (List.map enI r.Machine.Regs), .ro (.int .i64 r.Machine.Steps), .ro (.bool r.Machine.Done), .ro (.bool r.Machine.Wait)])] := by
  unfold m_laws_toPage at h
  simp only [M.Page.en]
  refine scalls_n (N := 25) (vars := [.cell 2 148]) Tryz.func51 rfl rfl rfl (by decide +kernel) (Nat.le_of_ble_eq_true rfl) fun base wd => ?_
  refine sq (rn ?_)
  refine an (sq (rn ?_))
  refine an (sq (rn ?_))
  refine an (sq (rn ?_))
  refine an (sq (rn ?_))
  refine an (sq (rn ?_))
  refine an (sq ?_)
  obtain ⟨x1, h2, h⟩ := bind_some h
  refine rn1 (c_laws_toLoadedS _ _ h2) ?_
  refine an (sq ?_)
  obtain ⟨x3, h4, h⟩ := bind_some h
  refine rn1 (c_laws_toMachine _ _ h4) ?_
  refine an (sq (rn ?_))
  refine an (rt ?_)
  cases h
  simp [Ret, TB, EN, *]

set_option maxRecDepth 20000 in
set_option maxHeartbeats 4000000 in
theorem c_laws_toPageS (p0 : List M.Page) (r : (List M.Page)) (h : m_laws_toPageS p0 = some r) : SCalls Tryz.prog 71 [(false, [.sl (List.map M.Page.en p0)])] [(false, [.own 148 11 (List.map M.Page.en r)])] := by
  unfold m_laws_toPageS at h
  refine scalls_n (N := 23) (vars := [.tmp 2]) Tryz.func71 rfl rfl rfl (by decide +kernel) (Nat.le_of_ble_eq_true rfl) fun base wd => ?_
  refine sq (rn ?_)
  refine an (sq ?_)
  obtain ⟨x1, h2, h⟩ := bind_some h
  refine rn1 (mkL_must h2) ?_
  refine an (sq (sq ?_))
  refine cu (fun s => s.t 0 = .v false [.dat (.sl (List.map M.Page.en p0))] ∧ s.t 3 = .v false [.row 100007 1] ∧ s.h 100007 = (1, .row 148 11 (List.map M.Page.en (List.replicate (List.length p0 : Int).toNat (⟨0, (⟨#[]⟩ : ByteArray), (⟨#[]⟩ : ByteArray), 0, ([] : List M.Loaded), (⟨([] : List M.Instr), 0, ([] : List Int), 0, false, false⟩ : M.Machine)⟩ : M.Page))) true) ∧ True) ?_
  rintro s3 ⟨f4, f5, f6, _⟩
  refine rn ?_
  refine an (bk ?_)
  refine SW_loop (fun m s => ∃ v4 : Int, ∃ r7 : List M.Page, s.t 0 = .v false [.dat (.sl (List.map M.Page.en p0))] ∧ s.t 3 = .v false [.row 100007 1] ∧ s.t 4 = .v false [.dat (.int .i64 v4)] ∧ s.h 100007 = (1, .row 148 11 (List.map M.Page.en r7) true) ∧ m_laws_toPageS_L1 p0 m v4 r7 = some r) fuel ?_ ?_
  · refine ⟨0, (List.replicate (List.length p0 : Int).toNat (⟨0, (⟨#[]⟩ : ByteArray), (⟨#[]⟩ : ByteArray), 0, ([] : List M.Loaded), (⟨([] : List M.Instr), 0, ([] : List Int), 0, false, false⟩ : M.Machine)⟩ : M.Page)), ?_, ?_, ?_, ?_, h⟩
    all_goals simp +decide only [F, reduceIte, Nat.reduceAdd, Bool.not_true, Bool.not_false, EN, *, -h]
  rintro mL1 s7 ⟨v4, r7, f8, f9, f10, f11, h⟩
  rcases mL1 with _ | mL1
  · exact absurd h (by simp [m_laws_toPageS_L1])
  simp only [m_laws_toPageS_L1] at h
  refine sq (sq (rn ?_))
  refine an ?_
  rcases bcas (decide (v4 < (List.length p0 : Int))) with b12 | b12
  · replace h := ite_f b12 h
    refine cf (xt (aft_cx (aft_ix (aft_x (an (sq (rn ?_)))))))
    refine an (rt ?_)
    cases h
    simp [Ret, TB, EN, *]
  replace h := ite_t b12 h
  refine ct (sk (an (sq (bk ?_))))
  obtain ⟨x13, h14, h⟩ := bind_some h
  obtain ⟨q15, q16, q17⟩ := idx_some h14
  obtain ⟨x18, h19, h⟩ := bind_some h
  obtain ⟨x20, h21, h⟩ := bind_some h
  obtain ⟨q22, q23, q24⟩ := idx_some h21
  refine rn1 (c_laws_toPage _ _ h19) ?_
  refine ab (an ?_)
  refine cu (fun s => s.t 0 = .v false [.dat (.sl (List.map M.Page.en p0))] ∧ s.t 3 = .v false [.row 100007 1] ∧ s.t 4 = .v false [.dat (.int .i64 v4)] ∧ s.h 100007 = (1, .row 148 11 (List.map M.Page.en (List.set r7 v4.toNat x18)) true) ∧ True) ?_
  rintro s25 ⟨f26, f27, f28, f29, _⟩
  refine rn ?_
  refine aft_i ⟨mL1, by omega, (IntKind.i64.wrap (v4 + 1)), (List.set r7 v4.toNat x18), ?_, ?_, ?_, ?_, h⟩
  all_goals simp +decide only [F, reduceIte, Nat.reduceAdd, Bool.not_true, Bool.not_false, EN, *, -h]

set_option maxRecDepth 20000 in
set_option maxHeartbeats 4000000 in
theorem c_laws_toLock (p0 : M.Lock) (r : M.Lock) (h : m_laws_toLock p0 = some r) : SCalls Tryz.prog 275 [(true, M.Lock.en p0)] [(true, [.ro (.str r.Name), .ro (.int .i64 r.Page), .ro (.bool r.Shared), .ro (.bool r.Held)])] := by
  unfold m_laws_toLock at h
  simp only [M.Lock.en]
  refine scalls_n (N := 17) (vars := [.cell 2 174]) Tryz.func275 rfl rfl rfl (by decide +kernel) (Nat.le_of_ble_eq_true rfl) fun base wd => ?_
  refine sq (rn ?_)
  refine an (sq (rn ?_))
  refine an (sq (rn ?_))
  refine an (sq (rn ?_))
  refine an (sq (rn ?_))
  refine an (sq (rn ?_))
  refine an (sq (rn ?_))
  refine an (rt ?_)
  cases h
  simp [Ret, TB, EN, *]

set_option maxRecDepth 20000 in
set_option maxHeartbeats 4000000 in
theorem c_laws_toLockS (p0 : List M.Lock) (r : (List M.Lock)) (h : m_laws_toLockS p0 = some r) : SCalls Tryz.prog 172 [(false, [.sl (List.map M.Lock.en p0)])] [(false, [.own 174 4 (List.map M.Lock.en r)])] := by
  unfold m_laws_toLockS at h
  refine scalls_n (N := 23) (vars := [.tmp 2]) Tryz.func172 rfl rfl rfl (by decide +kernel) (Nat.le_of_ble_eq_true rfl) fun base wd => ?_
  refine sq (rn ?_)
  refine an (sq ?_)
  obtain ⟨x1, h2, h⟩ := bind_some h
  refine rn1 (mkL_must h2) ?_
  refine an (sq (sq ?_))
  refine cu (fun s => s.t 0 = .v false [.dat (.sl (List.map M.Lock.en p0))] ∧ s.t 3 = .v false [.row 100007 1] ∧ s.h 100007 = (1, .row 174 4 (List.map M.Lock.en (List.replicate (List.length p0 : Int).toNat (⟨(⟨#[]⟩ : ByteArray), 0, false, false⟩ : M.Lock))) true) ∧ True) ?_
  rintro s3 ⟨f4, f5, f6, _⟩
  refine rn ?_
  refine an (bk ?_)
  refine SW_loop (fun m s => ∃ v4 : Int, ∃ r7 : List M.Lock, s.t 0 = .v false [.dat (.sl (List.map M.Lock.en p0))] ∧ s.t 3 = .v false [.row 100007 1] ∧ s.t 4 = .v false [.dat (.int .i64 v4)] ∧ s.h 100007 = (1, .row 174 4 (List.map M.Lock.en r7) true) ∧ m_laws_toLockS_L1 p0 m v4 r7 = some r) fuel ?_ ?_
  · refine ⟨0, (List.replicate (List.length p0 : Int).toNat (⟨(⟨#[]⟩ : ByteArray), 0, false, false⟩ : M.Lock)), ?_, ?_, ?_, ?_, h⟩
    all_goals simp +decide only [F, reduceIte, Nat.reduceAdd, Bool.not_true, Bool.not_false, EN, *, -h]
  rintro mL1 s7 ⟨v4, r7, f8, f9, f10, f11, h⟩
  rcases mL1 with _ | mL1
  · exact absurd h (by simp [m_laws_toLockS_L1])
  simp only [m_laws_toLockS_L1] at h
  refine sq (sq (rn ?_))
  refine an ?_
  rcases bcas (decide (v4 < (List.length p0 : Int))) with b12 | b12
  · replace h := ite_f b12 h
    refine cf (xt (aft_cx (aft_ix (aft_x (an (sq (rn ?_)))))))
    refine an (rt ?_)
    cases h
    simp [Ret, TB, EN, *]
  replace h := ite_t b12 h
  refine ct (sk (an (sq (bk ?_))))
  obtain ⟨x13, h14, h⟩ := bind_some h
  obtain ⟨q15, q16, q17⟩ := idx_some h14
  obtain ⟨x18, h19, h⟩ := bind_some h
  obtain ⟨x20, h21, h⟩ := bind_some h
  obtain ⟨q22, q23, q24⟩ := idx_some h21
  refine rn1 (c_laws_toLock _ _ h19) ?_
  refine ab (an ?_)
  refine cu (fun s => s.t 0 = .v false [.dat (.sl (List.map M.Lock.en p0))] ∧ s.t 3 = .v false [.row 100007 1] ∧ s.t 4 = .v false [.dat (.int .i64 v4)] ∧ s.h 100007 = (1, .row 174 4 (List.map M.Lock.en (List.set r7 v4.toNat x18)) true) ∧ True) ?_
  rintro s25 ⟨f26, f27, f28, f29, _⟩
  refine rn ?_
  refine aft_i ⟨mL1, by omega, (IntKind.i64.wrap (v4 + 1)), (List.set r7 v4.toNat x18), ?_, ?_, ?_, ?_, h⟩
  all_goals simp +decide only [F, reduceIte, Nat.reduceAdd, Bool.not_true, Bool.not_false, EN, *, -h]

set_option maxRecDepth 20000 in
set_option maxHeartbeats 4000000 in
theorem c_laws_toLockTable (p0 : M.LockTable) (r : M.LockTable) (h : m_laws_toLockTable p0 = some r) : SCalls Tryz.prog 72 [(true, M.LockTable.en p0)] [(true, [.own 174 4 (List.map M.Lock.en r.Locks)])] := by
  unfold m_laws_toLockTable at h
  simp only [M.LockTable.en]
  refine scalls_n (N := 9) (vars := [.cell 2 73]) Tryz.func72 rfl rfl rfl (by decide +kernel) (Nat.le_of_ble_eq_true rfl) fun base wd => ?_
  refine sq (rn ?_)
  refine an (sq (rn ?_))
  refine an (sq ?_)
  obtain ⟨x1, h2, h⟩ := bind_some h
  refine rn1 (c_laws_toLockS _ _ h2) ?_
  refine an (sq (rn ?_))
  refine an (rt ?_)
  cases h
  simp [Ret, TB, EN, *]

set_option maxRecDepth 20000 in
set_option maxHeartbeats 4000000 in
theorem c_laws_toMail (p0 : M.Mail) (r : M.Mail) (h : m_laws_toMail p0 = some r) : SCalls Tryz.prog 276 [(true, M.Mail.en p0)] [(true, [.ro (.int .i64 r.To), .ro (.int .i64 r.From), .ro (.int .i64 r.N)])] := by
  unfold m_laws_toMail at h
  simp only [M.Mail.en]
  refine scalls_n (N := 14) (vars := [.cell 2 177]) Tryz.func276 rfl rfl rfl (by decide +kernel) (Nat.le_of_ble_eq_true rfl) fun base wd => ?_
  refine sq (rn ?_)
  refine an (sq (rn ?_))
  refine an (sq (rn ?_))
  refine an (sq (rn ?_))
  refine an (sq (rn ?_))
  refine an (sq (rn ?_))
  refine an (rt ?_)
  cases h
  simp [Ret, TB, EN, *]

set_option maxRecDepth 20000 in
set_option maxHeartbeats 4000000 in
theorem c_laws_toMailS (p0 : List M.Mail) (r : (List M.Mail)) (h : m_laws_toMailS p0 = some r) : SCalls Tryz.prog 173 [(false, [.sl (List.map M.Mail.en p0)])] [(false, [.own 177 3 (List.map M.Mail.en r)])] := by
  unfold m_laws_toMailS at h
  refine scalls_n (N := 23) (vars := [.tmp 2]) Tryz.func173 rfl rfl rfl (by decide +kernel) (Nat.le_of_ble_eq_true rfl) fun base wd => ?_
  refine sq (rn ?_)
  refine an (sq ?_)
  obtain ⟨x1, h2, h⟩ := bind_some h
  refine rn1 (mkL_must h2) ?_
  refine an (sq (sq ?_))
  refine cu (fun s => s.t 0 = .v false [.dat (.sl (List.map M.Mail.en p0))] ∧ s.t 3 = .v false [.row 100007 1] ∧ s.h 100007 = (1, .row 177 3 (List.map M.Mail.en (List.replicate (List.length p0 : Int).toNat (⟨0, 0, 0⟩ : M.Mail))) true) ∧ True) ?_
  rintro s3 ⟨f4, f5, f6, _⟩
  refine rn ?_
  refine an (bk ?_)
  refine SW_loop (fun m s => ∃ v4 : Int, ∃ r7 : List M.Mail, s.t 0 = .v false [.dat (.sl (List.map M.Mail.en p0))] ∧ s.t 3 = .v false [.row 100007 1] ∧ s.t 4 = .v false [.dat (.int .i64 v4)] ∧ s.h 100007 = (1, .row 177 3 (List.map M.Mail.en r7) true) ∧ m_laws_toMailS_L1 p0 m v4 r7 = some r) fuel ?_ ?_
  · refine ⟨0, (List.replicate (List.length p0 : Int).toNat (⟨0, 0, 0⟩ : M.Mail)), ?_, ?_, ?_, ?_, h⟩
    all_goals simp +decide only [F, reduceIte, Nat.reduceAdd, Bool.not_true, Bool.not_false, EN, *, -h]
  rintro mL1 s7 ⟨v4, r7, f8, f9, f10, f11, h⟩
  rcases mL1 with _ | mL1
  · exact absurd h (by simp [m_laws_toMailS_L1])
  simp only [m_laws_toMailS_L1] at h
  refine sq (sq (rn ?_))
  refine an ?_
  rcases bcas (decide (v4 < (List.length p0 : Int))) with b12 | b12
  · replace h := ite_f b12 h
    refine cf (xt (aft_cx (aft_ix (aft_x (an (sq (rn ?_)))))))
    refine an (rt ?_)
    cases h
    simp [Ret, TB, EN, *]
  replace h := ite_t b12 h
  refine ct (sk (an (sq (bk ?_))))
  obtain ⟨x13, h14, h⟩ := bind_some h
  obtain ⟨q15, q16, q17⟩ := idx_some h14
  obtain ⟨x18, h19, h⟩ := bind_some h
  obtain ⟨x20, h21, h⟩ := bind_some h
  obtain ⟨q22, q23, q24⟩ := idx_some h21
  refine rn1 (c_laws_toMail _ _ h19) ?_
  refine ab (an ?_)
  refine cu (fun s => s.t 0 = .v false [.dat (.sl (List.map M.Mail.en p0))] ∧ s.t 3 = .v false [.row 100007 1] ∧ s.t 4 = .v false [.dat (.int .i64 v4)] ∧ s.h 100007 = (1, .row 177 3 (List.map M.Mail.en (List.set r7 v4.toNat x18)) true) ∧ True) ?_
  rintro s25 ⟨f26, f27, f28, f29, _⟩
  refine rn ?_
  refine aft_i ⟨mL1, by omega, (IntKind.i64.wrap (v4 + 1)), (List.set r7 v4.toNat x18), ?_, ?_, ?_, ?_, h⟩
  all_goals simp +decide only [F, reduceIte, Nat.reduceAdd, Bool.not_true, Bool.not_false, EN, *, -h]

set_option maxRecDepth 20000 in
set_option maxHeartbeats 4000000 in
theorem c_laws_toChannel (p0 : M.Channel) (r : M.Channel) (h : m_laws_toChannel p0 = some r) : SCalls Tryz.prog 73 [(true, M.Channel.en p0)] [(true, [.own 177 3 (List.map M.Mail.en r.Mails)])] := by
  unfold m_laws_toChannel at h
  simp only [M.Channel.en]
  refine scalls_n (N := 9) (vars := [.cell 2 76]) Tryz.func73 rfl rfl rfl (by decide +kernel) (Nat.le_of_ble_eq_true rfl) fun base wd => ?_
  refine sq (rn ?_)
  refine an (sq (rn ?_))
  refine an (sq ?_)
  obtain ⟨x1, h2, h⟩ := bind_some h
  refine rn1 (c_laws_toMailS _ _ h2) ?_
  refine an (sq (rn ?_))
  refine an (rt ?_)
  cases h
  simp [Ret, TB, EN, *]

set_option maxRecDepth 20000 in
set_option maxHeartbeats 4000000 in
theorem c_laws_toStringS (p0 : List ByteArray) (r : (List ByteArray)) (h : m_laws_toStringS p0 = some r) : SCalls Tryz.prog 277 [(false, [.sl (List.map enS p0)])] [(false, [.own 9 1 (List.map enS r)])] := by
  unfold m_laws_toStringS at h
  refine scalls_n (N := 22) (vars := [.tmp 2]) Tryz.func277 rfl rfl rfl (by decide +kernel) (Nat.le_of_ble_eq_true rfl) fun base wd => ?_
  refine sq (rn ?_)
  refine an (sq ?_)
  obtain ⟨x1, h2, h⟩ := bind_some h
  refine rn1 (mkL_must h2) ?_
  refine an (sq (sq ?_))
  refine cu (fun s => s.t 0 = .v false [.dat (.sl (List.map enS p0))] ∧ s.t 3 = .v false [.row 100007 1] ∧ s.h 100007 = (1, .row 9 1 (List.map enS (List.replicate (List.length p0 : Int).toNat (⟨#[]⟩ : ByteArray))) true) ∧ True) ?_
  rintro s3 ⟨f4, f5, f6, _⟩
  refine rn ?_
  refine an (bk ?_)
  refine SW_loop (fun m s => ∃ v4 : Int, ∃ r7 : List ByteArray, s.t 0 = .v false [.dat (.sl (List.map enS p0))] ∧ s.t 3 = .v false [.row 100007 1] ∧ s.t 4 = .v false [.dat (.int .i64 v4)] ∧ s.h 100007 = (1, .row 9 1 (List.map enS r7) true) ∧ m_laws_toStringS_L1 p0 m v4 r7 = some r) fuel ?_ ?_
  · refine ⟨0, (List.replicate (List.length p0 : Int).toNat (⟨#[]⟩ : ByteArray)), ?_, ?_, ?_, ?_, h⟩
    all_goals simp +decide only [F, reduceIte, Nat.reduceAdd, Bool.not_true, Bool.not_false, EN, *, -h]
  rintro mL1 s7 ⟨v4, r7, f8, f9, f10, f11, h⟩
  rcases mL1 with _ | mL1
  · exact absurd h (by simp [m_laws_toStringS_L1])
  simp only [m_laws_toStringS_L1] at h
  refine sq (sq (rn ?_))
  refine an ?_
  rcases bcas (decide (v4 < (List.length p0 : Int))) with b12 | b12
  · replace h := ite_f b12 h
    refine cf (xt (aft_cx (aft_ix (aft_x (an (sq (rn ?_)))))))
    refine an (rt ?_)
    cases h
    simp [Ret, TB, EN, *]
  replace h := ite_t b12 h
  refine ct (sk (an (sq (bk ?_))))
  obtain ⟨x13, h14, h⟩ := bind_some h
  obtain ⟨q15, q16, q17⟩ := idx_some h14
  obtain ⟨x18, h19, h⟩ := bind_some h
  obtain ⟨q20, q21, q22⟩ := idx_some h19
  refine rn ?_
  refine ab (an ?_)
  refine cu (fun s => s.t 0 = .v false [.dat (.sl (List.map enS p0))] ∧ s.t 3 = .v false [.row 100007 1] ∧ s.t 4 = .v false [.dat (.int .i64 v4)] ∧ s.h 100007 = (1, .row 9 1 (List.map enS (List.set r7 v4.toNat x13)) true) ∧ True) ?_
  rintro s23 ⟨f24, f25, f26, f27, _⟩
  refine rn ?_
  refine aft_i ⟨mL1, by omega, (IntKind.i64.wrap (v4 + 1)), (List.set r7 v4.toNat x13), ?_, ?_, ?_, ?_, h⟩
  all_goals simp +decide only [F, reduceIte, Nat.reduceAdd, Bool.not_true, Bool.not_false, EN, *, -h]

set_option maxRecDepth 20000 in
set_option maxHeartbeats 4000000 in
theorem c_laws_toSite (p0 : M.Site) (r : M.Site) (h : m_laws_toSite p0 = some r) : SCalls Tryz.prog 174 [(true, M.Site.en p0)] [(true, [.ro (.str r.Name), .ro (.int .i64 r.Version), .own 9 1 (List.map enS r.Files), .ro (.bool r.Shared)])] := by
  unfold m_laws_toSite at h
  simp only [M.Site.en]
  refine scalls_n (N := 18) (vars := [.cell 2 181]) Tryz.func174 rfl rfl rfl (by decide +kernel) (Nat.le_of_ble_eq_true rfl) fun base wd => ?_
  refine sq (rn ?_)
  refine an (sq (rn ?_))
  refine an (sq (rn ?_))
  refine an (sq (rn ?_))
  refine an (sq ?_)
  obtain ⟨x1, h2, h⟩ := bind_some h
  refine rn1 (c_laws_toStringS _ _ h2) ?_
  refine an (sq (rn ?_))
  refine an (sq (rn ?_))
  refine an (rt ?_)
  cases h
  simp [Ret, TB, EN, *]

end Go.Proofs.YtgemmnkhddlhpaaGreat.gen
