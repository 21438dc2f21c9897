/-
  Helper text: walks: each function's contract out of its model. No conditions beyond those of each contract.
-/
import Derived.Test.YtmpbibngijnfeaaGreatUTi
import Derived.Test.YtmpbibngijnfeaaGreatUWspec0
namespace Go.Proofs.YtmpbibngijnfeaaGreat.gen
open Go Go.Sh
set_option linter.unusedVariables false
set_option linter.unusedSimpArgs false
set_option maxRecDepth 20000
set_option maxHeartbeats 4000000
theorem c209 (p0 p1 r) (h : m_spec_AppendUvarint p0 p1 = some r) : Sc 209 [aL enB p0, aI p1] [rW 5 1 enB r] := by
  unfold m_spec_AppendUvarint at h
  simp only [EN]
  refine sgn 29 [.tmp 4] Tryz.func209 fun base wd => ?_
  refine sq (rn ?_)
  refine an (sq ?_)
  obtain ⟨x1, h2, h⟩ := bind_some h
  refine rn1 h2 ?_
  refine an (sq (sq ?_))
  refine cu (fun s => s.t 1 = vI p1 ∧ s.t 5 = vR 100006 2 ∧ s.h 100006 = (2, oW 5 1 enB p0) ∧ True) ?_
  rintro s3 ⟨f4, f5, f6, _⟩
  obtain ⟨x7, h8, h⟩ := bind_some h
  refine rn1 (c99 _ _ _ _ h8) ?_
  refine an ?_
  rcases bcase (!x7) with b9 | b9
  · replace h := ite_t b9 h
    refine ct (sq (rn ?_))
    refine an (rt ?_)
    cases h
    simp [Ret, TB, EN, *]
  replace h := ite_f b9 h
  refine cf (sk (an (sq (bk ?_))))
  refine SW_loop (fun m s => ∃ v1 : Int, ∃ r6 : List Int, ∃ u6 : Nat, s.t 1 = vI v1 ∧ s.t 5 = vR 100006 u6 ∧ s.h 100006 = (u6, oW 5 1 enB r6) ∧ m_spec_AppendUvarint_L1 m v1 r6 = some r) fuel ?_ ?_
  · refine ⟨p1, p0, 2, ?_, ?_, ?_, h⟩
    all_goals simp +decide only [F, reduceIte, Nat.reduceAdd, Bool.not_true, Bool.not_false, EN, *, -h]
  rintro mL1 s10 ⟨v1, r6, u6, f11, f12, f13, h⟩
  rcases mL1 with _ | mL1
  · exact absurd h (by simp [m_spec_AppendUvarint_L1])
  simp only [m_spec_AppendUvarint_L1] at h
  refine sq (sq (rn ?_))
  refine an ?_
  rcases bcas (decide (v1 > 127)) with b14 | b14
  · replace h := ite_f b14 h
    refine cf (xt (aft_cx (aft_ix (aft_x (an (sq ?_))))))
    obtain ⟨x21, h22, h⟩ := bind_some h
    refine rn1 h22 ?_
    refine an (rt ?_)
    cases h
    simp [Ret, TB, EN, *]
  replace h := ite_t b14 h
  refine ct (sk (an (bk (sq ?_))))
  obtain ⟨x15, h16, h⟩ := bind_some h
  refine rn1 h16 ?_
  refine an ?_
  refine cu (fun s => s.t 1 = vI v1 ∧ s.t 5 = vR 100006 (u6 + 1) ∧ s.h 100006 = ((u6 + 1), oW 5 1 enB (r6 ++ [(IntKind.u8.wrap (IntKind.i64.wrap (BitVec.ofInt (IntKind.i64.bits) (IntKind.i64.wrap (BitVec.ofInt (IntKind.i64.bits) v1 &&& BitVec.ofInt (IntKind.i64.bits) 127).toNat) ||| BitVec.ofInt (IntKind.i64.bits) 128).toNat))])) ∧ True) ?_
  rintro s17 ⟨f18, f19, f20, _⟩
  apply SW_run
  · simp +decide only [E, reduceIte, Nat.reduceAdd, Nat.reduceMul, Bool.not_true, Bool.not_false, Int.reduceLT, shr_ok, L, EN, b9, b14, f18, f19, f20]
    exact Is.mk _
  refine ab ?_
  refine aft_i ⟨mL1, by omega, (Int.fdiv v1 (2 ^ (min (7 : Int).toNat IntKind.i64.bits))), (r6 ++ [(IntKind.u8.wrap (IntKind.i64.wrap (BitVec.ofInt (IntKind.i64.bits) (IntKind.i64.wrap (BitVec.ofInt (IntKind.i64.bits) v1 &&& BitVec.ofInt (IntKind.i64.bits) 127).toNat) ||| BitVec.ofInt (IntKind.i64.bits) 128).toNat))]), (u6 + 1), ?_, ?_, ?_, h⟩
  all_goals simp +decide only [F, reduceIte, Nat.reduceAdd, Bool.not_true, Bool.not_false, EN, *, -h]
instance : HasC 209 (type_of% @c209) := ⟨@c209⟩

theorem c210 (p0 p1 r) (h : m_spec_AppendBytes p0 p1 = some r) : Sc 210 [aL enB p0, aL enB p1] [rW 5 1 enB r] := by
 unfold m_spec_AppendBytes at h
 exact sgo 11 [.tmp 4] Tryz.func210
instance : HasC 210 (type_of% @c210) := ⟨@c210⟩

theorem c182 (p0 r) (h : m_spec_EncodeRecord p0 = some r) : Sc 182 [aX (M.Record.en p0)] [rW 5 1 enB r] := by
 have i1 := invM [.t 3 7050000 5 1] fun m s => ∃ v4 : Int, ∃ r50000 : List Int, ∃ u50000 : Nat, (s.t 1 = vP 1 1 0 ∧ s.t 3 = vR 7050000 u50000 ∧ s.t 4 = vI v4 ∧ s.h 1 = (1, oX 175 (M.Record.en p0)) ∧ s.h 7050000 = (u50000, oW 5 1 enB r50000)) ∧ m_spec_EncodeRecord_L1 p0 m v4 r50000 = some r
 have e1 := @m_spec_EncodeRecord_L1.eq_2
 unfold m_spec_EncodeRecord at h
 exact sgo 38 [.tmp 2] Tryz.func182
instance : HasC 182 (type_of% @c182) := ⟨@c182⟩

theorem c140 (p0 r) (h : m_spec_SizeStore p0 = some r) : Sc 140 [aX (M.Store.en p0)] [rI r] := by
 have i1 := inv fun m s => ∃ v3 : Int, ∃ v4 : Int, (s.t 1 = vP 1 1 0 ∧ s.t 3 = vI v3 ∧ s.t 4 = vI v4 ∧ s.h 1 = (1, oX 60 (M.Store.en p0))) ∧ m_spec_SizeStore_L1 p0 m v3 v4 = some r
 have e1 := @m_spec_SizeStore_L1.eq_2
 unfold m_spec_SizeStore at h
 exact sgo 32 [.tmp 2] Tryz.func140
instance : HasC 140 (type_of% @c140) := ⟨@c140⟩

theorem c180 (p0 r) (h : m_spec_SizeDatabase p0 = some r) : Sc 180 [aX (M.Database.en p0)] [rI r] := by
 have i1 := inv fun m s => ∃ v3 : Int, ∃ v4 : Int, (s.t 1 = vP 1 1 0 ∧ s.t 3 = vI v3 ∧ s.t 4 = vI v4 ∧ s.h 1 = (1, oX 55 (M.Database.en p0))) ∧ m_spec_SizeDatabase_L1 p0 m v3 v4 = some r
 have e1 := @m_spec_SizeDatabase_L1.eq_2
 unfold m_spec_SizeDatabase at h
 exact sgo 21 [.tmp 2] Tryz.func180
instance : HasC 180 (type_of% @c180) := ⟨@c180⟩

theorem c139 (p0 r) (h : m_spec_SizeDisk p0 = some r) : Sc 139 [aX (M.Disk.en p0)] [rI r] := by
 unfold m_spec_SizeDisk at h
 exact sgo 10 [.tmp 2] Tryz.func139
instance : HasC 139 (type_of% @c139) := ⟨@c139⟩

theorem c100 (p0 r) (h : m_spec_UsageOf p0 = some r) : Sc 100 [aX (M.Bucket.en p0)] [rI r] := by
 unfold m_spec_UsageOf at h
 exact sgo 23 [.tmp 2] Tryz.func100
instance : HasC 100 (type_of% @c100) := ⟨@c100⟩

theorem c64 (p0 r) (h : m_spec_IsBucket p0 = some r) : Sc 64 [aX (M.Bucket.en p0)] [rB r] := by
 unfold m_spec_IsBucket at h
 exact sgo 50 [.tmp 2] Tryz.func64
instance : HasC 64 (type_of% @c64) := ⟨@c64⟩

set_option maxRecDepth 20000 in
set_option maxHeartbeats 4000000 in
theorem c35o (p0 p1 : M.Bucket) (r : (M.Bucket × Bool)) (h : m_spec_l27Change p0 p1 = some r) (h2 : r.2 = false) : SCalls Tryz.prog 35 [(true, M.Bucket.en p0), (true, M.Bucket.en p1)] [(true, [.ro (.str r.1.Site), .ro (.str r.1.Top), .ro (.str r.1.Registration.Site), .ro (.int .i64 r.1.Registration.Installing), .ro (.int .i64 r.1.Registration.Waiting), .ro (.int .i64 r.1.Registration.Active), .own 144 2 (List.map M.Cache.en r.1.Caches.Caches), .ro (.str r.1.Disk.Base.Name), .ro (.int .i64 r.1.Disk.Base.Version), .own 60 3 (List.map M.Store.en r.1.Disk.Base.Stores), .own 159 2 (List.map M.IndexDef.en r.1.Disk.Base.Unique), .own 5 1 (List.map enB r.1.Disk.Log), .ro (.int .i64 r.1.Disk.Count), .ro (.str r.1.Replica.Base.Name), .own 177 4 (List.map M.Item.en r.1.Replica.Base.Items), .ro (.int .i64 r.1.Replica.Base.Auto), .ro (.int .i64 r.1.Replica.Seen), .ro (.int .i64 r.1.Replica.Sync.Outbox.Device), .ro (.int .i64 r.1.Replica.Sync.Outbox.Next), .own 217 7 (List.map M.Write.en r.1.Replica.Sync.Outbox.Writes), .ro (.int .i64 r.1.Replica.Sync.Tries), .ro (.int .i64 r.1.Replica.Sync.WaitUntil), .ro (.int .i64 r.1.LastUsed), .ro (.bool r.1.Persistent)]), (false, [.ro (.bool r.2)])] := by
  unfold m_spec_l27Change at h
  simp only [M.Bucket.en]
  refine scalls_n (N := 17) (vars := [.cell 4 69, .tmp 5]) Tryz.func35 rfl rfl rfl (by decide +kernel) (Nat.le_of_ble_eq_true rfl) fun base wd => ?_
  refine sq ?_
  apply SW_run
  · simp +decide only [E, reduceIte, Nat.reduceAdd, Nat.reduceMul, Bool.not_true, Bool.not_false, L, ti69, EN]
    exact Is.mk _
  refine an (sq (sq ?_))
  obtain ⟨x1, h2, h⟩ := bind_some h
  rcases bcase (!x1) with b3 | b3
  · replace h := ite_t b3 h
    apply SW_run
    · simp +decide only [E, reduceIte, Nat.reduceAdd, Nat.reduceMul, Bool.not_true, Bool.not_false, L, ti69, EN, b3]
      refine ⟨_, c64 _ _ h2, ?_⟩
      try simp +decide only [E, reduceIte, Nat.reduceAdd, Nat.reduceMul, Bool.not_true, Bool.not_false, L, ti69, EN, b3]
      exact Is.mk _
    refine an ?_
    refine SW_ct (by simp +decide only [F, reduceIte, Nat.reduceAdd, Bool.not_true, Bool.not_false, b3]) ?_
    refine sq ?_
    obtain ⟨x4, h5, h⟩ := bind_some h
    apply SW_run
    · simp +decide only [E, reduceIte, Nat.reduceAdd, Nat.reduceMul, Bool.not_true, Bool.not_false, L, ti69, EN, b3]
      refine ⟨_, c33 _ _ h5, ?_⟩
      try simp +decide only [E, reduceIte, Nat.reduceAdd, Nat.reduceMul, Bool.not_true, Bool.not_false, L, ti69, EN, b3]
      exact Is.mk _
    refine an (rt ?_)
    cases h
    simp [Ret, ti69, M.Cache.en, M.IndexDef.en, M.Item.en, M.Store.en, M.Write.en, enB, b3]
  replace h := ite_f b3 h
  obtain ⟨x6, h7, h⟩ := bind_some h
  apply SW_run
  · simp +decide only [E, reduceIte, Nat.reduceAdd, Nat.reduceMul, Bool.not_true, Bool.not_false, L, ti69, EN, b3]
    refine ⟨_, c64 _ _ h2, ?_⟩
    try simp +decide only [E, reduceIte, Nat.reduceAdd, Nat.reduceMul, Bool.not_true, Bool.not_false, L, ti69, EN, b3]
    refine ⟨_, c64 _ _ h7, ?_⟩
    try simp +decide only [E, reduceIte, Nat.reduceAdd, Nat.reduceMul, Bool.not_true, Bool.not_false, L, ti69, EN, b3]
    exact Is.mk _
  refine an ?_
  rcases bcas (!x6) with b8 | b8
  · replace h := ite_f b8 h
    refine SW_cf (by simp +decide only [F, reduceIte, Nat.reduceAdd, Bool.not_true, Bool.not_false, b3, b8]) ?_
    refine sk (an (sq ?_))
    apply SW_run
    · simp +decide only [E, reduceIte, Nat.reduceAdd, Nat.reduceMul, Bool.not_true, Bool.not_false, L, ti69, EN, b3, b8]
      exact Is.mk _
    refine an (rt ?_)
    cases h
    exact absurd h2 (by simp)
  replace h := ite_t b8 h
  refine SW_ct (by simp +decide only [F, reduceIte, Nat.reduceAdd, Bool.not_true, Bool.not_false, b3, b8]) ?_
  refine sq ?_
  obtain ⟨x9, h10, h⟩ := bind_some h
  apply SW_run
  · simp +decide only [E, reduceIte, Nat.reduceAdd, Nat.reduceMul, Bool.not_true, Bool.not_false, L, ti69, EN, b3, b8]
    refine ⟨_, c33 _ _ h10, ?_⟩
    try simp +decide only [E, reduceIte, Nat.reduceAdd, Nat.reduceMul, Bool.not_true, Bool.not_false, L, ti69, EN, b3, b8]
    exact Is.mk _
  refine an (rt ?_)
  cases h
  simp [Ret, ti69, M.Cache.en, M.IndexDef.en, M.Item.en, M.Store.en, M.Write.en, enB, b3, b8]

set_option maxRecDepth 20000 in
set_option maxHeartbeats 4000000 in
theorem c35p (p0 p1 : M.Bucket) (r : (M.Bucket × Bool)) (h : m_spec_l27Change p0 p1 = some r) (h2 : r.2 = true) : SCalls Tryz.prog 35 [(true, M.Bucket.en p0), (true, M.Bucket.en p1)] [(false, [.edit .pass])] := by
  unfold m_spec_l27Change at h
  simp only [M.Bucket.en]
  refine pass_of (N := 17) (vars := [.cell 4 69, .tmp 5]) Tryz.func35 rfl rfl rfl (by decide +kernel) (by decide) fun base wd us => ?_
  refine sq ?_
  apply SW_run
  · simp +decide only [LP, E, reduceIte, Nat.reduceAdd, Nat.reduceMul, Bool.not_true, Bool.not_false, L, ti69, EN]
    exact Is.mk _
  refine an (sq (sq ?_))
  obtain ⟨x1, h2, h⟩ := bind_some h
  rcases bcase (!x1) with b3 | b3
  · replace h := ite_t b3 h
    apply SW_run
    · simp +decide only [LP, E, reduceIte, Nat.reduceAdd, Nat.reduceMul, Bool.not_true, Bool.not_false, L, ti69, EN, b3]
      refine ⟨_, c64 _ _ h2, ?_⟩
      try simp +decide only [LP, E, reduceIte, Nat.reduceAdd, Nat.reduceMul, Bool.not_true, Bool.not_false, L, ti69, EN, b3]
      exact Is.mk _
    refine an ?_
    refine SW_ct (by simp +decide only [LP, F, reduceIte, Nat.reduceAdd, Bool.not_true, Bool.not_false, b3]) ?_
    refine sq ?_
    obtain ⟨x4, h5, h⟩ := bind_some h
    apply SW_run
    · simp +decide only [LP, E, reduceIte, Nat.reduceAdd, Nat.reduceMul, Bool.not_true, Bool.not_false, L, ti69, EN, b3]
      refine ⟨_, c33 _ _ h5, ?_⟩
      try simp +decide only [LP, E, reduceIte, Nat.reduceAdd, Nat.reduceMul, Bool.not_true, Bool.not_false, L, ti69, EN, b3]
      exact Is.mk _
    refine an (rt ?_)
    cases h
    exact absurd h2 (by simp)
  replace h := ite_f b3 h
  obtain ⟨x6, h7, h⟩ := bind_some h
  apply SW_run
  · simp +decide only [LP, E, reduceIte, Nat.reduceAdd, Nat.reduceMul, Bool.not_true, Bool.not_false, L, ti69, EN, b3]
    refine ⟨_, c64 _ _ h2, ?_⟩
    try simp +decide only [LP, E, reduceIte, Nat.reduceAdd, Nat.reduceMul, Bool.not_true, Bool.not_false, L, ti69, EN, b3]
    refine ⟨_, c64 _ _ h7, ?_⟩
    try simp +decide only [LP, E, reduceIte, Nat.reduceAdd, Nat.reduceMul, Bool.not_true, Bool.not_false, L, ti69, EN, b3]
    exact Is.mk _
  refine an ?_
  rcases bcas (!x6) with b8 | b8
  · replace h := ite_f b8 h
    refine SW_cf (by simp +decide only [LP, F, reduceIte, Nat.reduceAdd, Bool.not_true, Bool.not_false, b3, b8]) ?_
    refine sk (an (sq ?_))
    apply SW_run
    · simp +decide only [LP, E, reduceIte, Nat.reduceAdd, Nat.reduceMul, Bool.not_true, Bool.not_false, L, ti69, EN, b3, b8]
      exact Is.mk _
    refine an (rt ?_)
    cases h
    simp [RetP, LP, M.Bucket.en, ti69, b3, b8]
  replace h := ite_t b8 h
  refine SW_ct (by simp +decide only [LP, F, reduceIte, Nat.reduceAdd, Bool.not_true, Bool.not_false, b3, b8]) ?_
  refine sq ?_
  obtain ⟨x9, h10, h⟩ := bind_some h
  apply SW_run
  · simp +decide only [LP, E, reduceIte, Nat.reduceAdd, Nat.reduceMul, Bool.not_true, Bool.not_false, L, ti69, EN, b3, b8]
    refine ⟨_, c33 _ _ h10, ?_⟩
    try simp +decide only [LP, E, reduceIte, Nat.reduceAdd, Nat.reduceMul, Bool.not_true, Bool.not_false, L, ti69, EN, b3, b8]
    exact Is.mk _
  refine an (rt ?_)
  cases h
  exact absurd h2 (by simp)

theorem c8 (p0 p1 r) (h : m_spec_ReplaceDisk p0 p1 = some r) : Sc 8 [aX (M.Bucket.en p0), aX (M.Disk.en p1)] [(true, M.Bucket.rs r.1), rB r.2] := by
  unfold m_spec_ReplaceDisk at h
  simp only [EN]
  refine sgn 17 [.cell 4 69, .tmp 5] Tryz.func8 fun base wd => ?_
  refine sq (rn ?_)
  refine an (sq ?_)
  obtain ⟨x1, h2, h⟩ := bind_some h
  refine rn1 (c33 _ _ h2) ?_
  refine an (sq ?_)
  obtain ⟨x3, h4, h⟩ := bind_some h
  refine rn1 (c34 _ _ h4) ?_
  refine an (sq ?_)
  obtain ⟨x5, h6, h⟩ := bind_some h
  rcases bcase x5.2 with b7 | b7
  · replace h := ite_t b7 h
    refine rn1 (c35p _ _ _ h6 b7) ?_
    refine an (rt ?_)
    cases h
    simp [Ret, TB, EN, *]
  replace h := ite_f b7 h
  refine rn1 (c35o _ _ _ h6 b7) ?_
  refine an (rt ?_)
  cases h
  simp [Ret, TB, EN, *]
instance : HasC 8 (type_of% @c8) := ⟨@c8⟩

theorem c18 (p0 p1 r) (h : m_spec_ReplaceReplica p0 p1 = some r) : Sc 18 [aX (M.Bucket.en p0), aX (M.Replica.en p1)] [(true, M.Bucket.rs r.1), rB r.2] := by
  unfold m_spec_ReplaceReplica at h
  simp only [EN]
  refine sgn 17 [.cell 4 69, .tmp 5] Tryz.func18 fun base wd => ?_
  refine sq (rn ?_)
  refine an (sq ?_)
  obtain ⟨x1, h2, h⟩ := bind_some h
  refine rn1 (c33 _ _ h2) ?_
  refine an (sq ?_)
  obtain ⟨x3, h4, h⟩ := bind_some h
  refine rn1 (c49 _ _ h4) ?_
  refine an (sq ?_)
  obtain ⟨x5, h6, h⟩ := bind_some h
  rcases bcase x5.2 with b7 | b7
  · replace h := ite_t b7 h
    refine rn1 (c35p _ _ _ h6 b7) ?_
    refine an (rt ?_)
    cases h
    simp [Ret, TB, EN, *]
  replace h := ite_f b7 h
  refine rn1 (c35o _ _ _ h6 b7) ?_
  refine an (rt ?_)
  cases h
  simp [Ret, TB, EN, *]
instance : HasC 18 (type_of% @c18) := ⟨@c18⟩

theorem c25 (p0 p1 p2 r) (h : m_spec_ReplaceCaches p0 p1 p2 = some r) : Sc 25 [aX (M.Bucket.en p0), aX (M.CacheSet.en p1), aX (M.Registration.en p2)] [(true, M.Bucket.rs r.1), rB r.2] := by
  unfold m_spec_ReplaceCaches at h
  simp only [EN]
  refine sgn 21 [.cell 6 69, .tmp 7] Tryz.func25 fun base wd => ?_
  refine sq (rn ?_)
  refine an (sq ?_)
  obtain ⟨x1, h2, h⟩ := bind_some h
  refine rn1 (c33 _ _ h2) ?_
  refine an (sq ?_)
  obtain ⟨x3, h4, h⟩ := bind_some h
  refine rn1 (c57 _ _ h4) ?_
  refine an (sq (rn ?_))
  refine an (sq ?_)
  obtain ⟨x5, h6, h⟩ := bind_some h
  rcases bcase x5.2 with b7 | b7
  · replace h := ite_t b7 h
    refine rn1 (c35p _ _ _ h6 b7) ?_
    refine an (rt ?_)
    cases h
    simp [Ret, TB, EN, *]
  replace h := ite_f b7 h
  refine rn1 (c35o _ _ _ h6 b7) ?_
  refine an (rt ?_)
  cases h
  simp [Ret, TB, EN, *]
instance : HasC 25 (type_of% @c25) := ⟨@c25⟩

end Go.Proofs.YtmpbibngijnfeaaGreat.gen
