/-
  Helper text: walks: each function's contract out of its model. No conditions beyond those of each contract.
-/
import Derived.Test.YtgemmnkhddlhpaaGreatPutBucketTi
import Derived.Test.YtgemmnkhddlhpaaGreatPutBucketWspec0
namespace Go.Proofs.YtgemmnkhddlhpaaGreat.gen
open Go Go.Sh
set_option linter.unusedVariables false
set_option linter.unusedSimpArgs false
set_option maxRecDepth 20000
set_option maxHeartbeats 4000000
theorem c395 (p0 p1 r) (h : m_spec_AppendUvarint p0 p1 = some r) : Sc 395 [aL enB p0, aI p1] [rW 5 1 enB r] := by
  unfold m_spec_AppendUvarint at h
  simp only [EN]
  refine sgn 29 [.tmp 4] Tryz.func395 fun base wd => ?_
  refine sq (rn ?_)
  refine an (sq ?_)
  obtain ⟨x1, h2, h⟩ := bind_some h
  refine rn1 h2 ?_
  refine an (sq (sq ?_))
  refine cu (fun s => s.t 1 = vI p1 ∧ s.t 5 = vR 100006 2 ∧ s.h 100006 = (2, oW 5 1 enB p0) ∧ True) ?_
  rintro s3 ⟨f4, f5, f6, _⟩
  obtain ⟨x7, h8, h⟩ := bind_some h
  refine rn1 (c150 _ _ _ _ h8) ?_
  refine an ?_
  rcases bcase (!x7) with b9 | b9
  · replace h := ite_t b9 h
    refine ct (sq (rn ?_))
    refine an (rt ?_)
    cases h
    simp [Ret, TB, EN, *]
  replace h := ite_f b9 h
  refine cf (sk (an (sq (bk ?_))))
  refine SW_loop (fun m s => ∃ v1 : Int, ∃ r6 : List Int, ∃ u6 : Nat, s.t 1 = vI v1 ∧ s.t 5 = vR 100006 u6 ∧ s.h 100006 = (u6, oW 5 1 enB r6) ∧ m_spec_AppendUvarint_L1 m v1 r6 = some r) fuel ?_ ?_
  · refine ⟨p1, p0, 2, ?_, ?_, ?_, h⟩
    all_goals simp +decide only [F, reduceIte, Nat.reduceAdd, Bool.not_true, Bool.not_false, EN, *, -h]
  rintro mL1 s10 ⟨v1, r6, u6, f11, f12, f13, h⟩
  rcases mL1 with _ | mL1
  · exact absurd h (by simp [m_spec_AppendUvarint_L1])
  simp only [m_spec_AppendUvarint_L1] at h
  refine sq (sq (rn ?_))
  refine an ?_
  rcases bcas (decide (v1 > 127)) with b14 | b14
  · replace h := ite_f b14 h
    refine cf (xt (aft_cx (aft_ix (aft_x (an (sq ?_))))))
    obtain ⟨x21, h22, h⟩ := bind_some h
    refine rn1 h22 ?_
    refine an (rt ?_)
    cases h
    simp [Ret, TB, EN, *]
  replace h := ite_t b14 h
  refine ct (sk (an (bk (sq ?_))))
  obtain ⟨x15, h16, h⟩ := bind_some h
  refine rn1 h16 ?_
  refine an ?_
  refine cu (fun s => s.t 1 = vI v1 ∧ s.t 5 = vR 100006 (u6 + 1) ∧ s.h 100006 = ((u6 + 1), oW 5 1 enB (r6 ++ [(IntKind.u8.wrap (IntKind.i64.wrap (BitVec.ofInt (IntKind.i64.bits) (IntKind.i64.wrap (BitVec.ofInt (IntKind.i64.bits) v1 &&& BitVec.ofInt (IntKind.i64.bits) 127).toNat) ||| BitVec.ofInt (IntKind.i64.bits) 128).toNat))])) ∧ True) ?_
  rintro s17 ⟨f18, f19, f20, _⟩
  apply SW_run
  · simp +decide only [E, reduceIte, Nat.reduceAdd, Nat.reduceMul, Bool.not_true, Bool.not_false, Int.reduceLT, shr_ok, L, EN, b9, b14, f18, f19, f20]
    exact Is.mk _
  refine ab ?_
  refine aft_i ⟨mL1, by omega, (Int.fdiv v1 (2 ^ (min (7 : Int).toNat IntKind.i64.bits))), (r6 ++ [(IntKind.u8.wrap (IntKind.i64.wrap (BitVec.ofInt (IntKind.i64.bits) (IntKind.i64.wrap (BitVec.ofInt (IntKind.i64.bits) v1 &&& BitVec.ofInt (IntKind.i64.bits) 127).toNat) ||| BitVec.ofInt (IntKind.i64.bits) 128).toNat))]), (u6 + 1), ?_, ?_, ?_, h⟩
  all_goals simp +decide only [F, reduceIte, Nat.reduceAdd, Bool.not_true, Bool.not_false, EN, *, -h]
instance : HasC 395 (type_of% @c395) := ⟨@c395⟩

theorem c396 (p0 p1 r) (h : m_spec_AppendBytes p0 p1 = some r) : Sc 396 [aL enB p0, aL enB p1] [rW 5 1 enB r] := by
 unfold m_spec_AppendBytes at h
 exact sgo 11 [.tmp 4] Tryz.func396
instance : HasC 396 (type_of% @c396) := ⟨@c396⟩

theorem c339 (p0 r) (h : m_spec_EncodeRecord p0 = some r) : Sc 339 [aX (M.Record.en p0)] [rW 5 1 enB r] := by
 have i1 := invM [.t 3 7050000 5 1] fun m s => ∃ v4 : Int, ∃ r50000 : List Int, ∃ u50000 : Nat, (s.t 1 = vP 1 1 0 ∧ s.t 3 = vR 7050000 u50000 ∧ s.t 4 = vI v4 ∧ s.h 1 = (1, oX 225 (M.Record.en p0)) ∧ s.h 7050000 = (u50000, oW 5 1 enB r50000)) ∧ m_spec_EncodeRecord_L1 p0 m v4 r50000 = some r
 have e1 := @m_spec_EncodeRecord_L1.eq_2
 unfold m_spec_EncodeRecord at h
 exact sgo 38 [.tmp 2] Tryz.func339
instance : HasC 339 (type_of% @c339) := ⟨@c339⟩

theorem c253 (p0 r) (h : m_spec_SizeStore p0 = some r) : Sc 253 [aX (M.Store.en p0)] [rI r] := by
 have i1 := inv fun m s => ∃ v3 : Int, ∃ v4 : Int, (s.t 1 = vP 1 1 0 ∧ s.t 3 = vI v3 ∧ s.t 4 = vI v4 ∧ s.h 1 = (1, oX 36 (M.Store.en p0))) ∧ m_spec_SizeStore_L1 p0 m v3 v4 = some r
 have e1 := @m_spec_SizeStore_L1.eq_2
 unfold m_spec_SizeStore at h
 exact sgo 32 [.tmp 2] Tryz.func253
instance : HasC 253 (type_of% @c253) := ⟨@c253⟩

theorem c337 (p0 r) (h : m_spec_SizeDatabase p0 = some r) : Sc 337 [aX (M.Database.en p0)] [rI r] := by
 have i1 := inv fun m s => ∃ v3 : Int, ∃ v4 : Int, (s.t 1 = vP 1 1 0 ∧ s.t 3 = vI v3 ∧ s.t 4 = vI v4 ∧ s.h 1 = (1, oX 30 (M.Database.en p0))) ∧ m_spec_SizeDatabase_L1 p0 m v3 v4 = some r
 have e1 := @m_spec_SizeDatabase_L1.eq_2
 unfold m_spec_SizeDatabase at h
 exact sgo 21 [.tmp 2] Tryz.func337
instance : HasC 337 (type_of% @c337) := ⟨@c337⟩

theorem c252 (p0 r) (h : m_spec_SizeDisk p0 = some r) : Sc 252 [aX (M.Disk.en p0)] [rI r] := by
 unfold m_spec_SizeDisk at h
 exact sgo 10 [.tmp 2] Tryz.func252
instance : HasC 252 (type_of% @c252) := ⟨@c252⟩

theorem c151 (p0 r) (h : m_spec_UsageOf p0 = some r) : Sc 151 [aX (M.Bucket.en p0)] [rI r] := by
 unfold m_spec_UsageOf at h
 exact sgo 23 [.tmp 2] Tryz.func151
instance : HasC 151 (type_of% @c151) := ⟨@c151⟩

theorem c55 (p0 r) (h : m_spec_IsBucket p0 = some r) : Sc 55 [aX (M.Bucket.en p0)] [rB r] := by
 unfold m_spec_IsBucket at h
 exact sgo 50 [.tmp 2] Tryz.func55
instance : HasC 55 (type_of% @c55) := ⟨@c55⟩

theorem c120 (p0 r) (h : m_spec_IsStorage p0 = some r) : Sc 120 [aX (M.Storage.en p0)] [rB r] := by
 have i1 := inv fun m s => ∃ v3 : Int, (s.t 1 = vP 1 1 0 ∧ s.t 3 = vI v3 ∧ s.h 1 = (1, oX 69 (M.Storage.en p0))) ∧ m_spec_IsStorage_L1 p0 m v3 = some r
 have e1 := @m_spec_IsStorage_L1.eq_2
 unfold m_spec_IsStorage at h
 exact sgo 48 [.tmp 2] Tryz.func120
instance : HasC 120 (type_of% @c120) := ⟨@c120⟩

theorem c43 (p0 p1 r) (h : m_spec_PutBucket p0 p1 = some r) : Sc 43 [aX (M.Storage.en p0), aX (M.Bucket.en p1)] [(true, M.Storage.rs r.1), rB r.2] := by
  unfold m_spec_PutBucket at h
  simp only [EN]
  refine sgn 74 [.cell 4 69, .tmp 5] Tryz.func43 fun base wd => ?_
  refine sq (rn ?_)
  refine an (sq ?_)
  obtain ⟨x1, h2, h⟩ := bind_some h
  refine rn1 (c117 _ _ h2) ?_
  refine an (sq (sq ?_))
  obtain ⟨x3, h4, h⟩ := bind_some h
  refine rn1 (c118 _ _ _ _ h4) ?_
  refine an (sq (rn ?_))
  refine an ?_
  rcases bcase (decide (x3 ≥ 0)) with b5 | b5
  · replace h := ite_t b5 h
    refine ct ?_
    obtain ⟨x6, h7, h⟩ := bind_some h
    obtain ⟨x8, h9, h⟩ := bind_some h
    obtain ⟨q10, q11, q12⟩ := idx_some h9
    refine rd1 mixed (c92 _ _ h7) ?_
    refine an (sq (sq ?_))
    refine cu (fun s => s.t 2 = vP 2 1 0 ∧ s.t 4 = vP 4 1 0 ∧ s.t 6 = vP 6 1 0 ∧ s.h 2 = (1, oX 69 (M.Storage.en p0)) ∧ s.h 4 = (1, oB 69 [.nil]) ∧ s.h 6 = (1, oB 69 [.row 100011 1]) ∧ s.h 100011 = (1, oW 45 24 M.Bucket.en (List.set x1.Buckets x3.toNat x6)) ∧ True) ?_
    rintro s13 ⟨f14, f15, f16, f17, f18, f19, f20, _⟩
    obtain ⟨x21, h22, h⟩ := bind_some h
    rcases bcase (!x21) with b23 | b23
    · replace h := ite_t b23 h
      refine rn1 (c120 _ _ h22) ?_
      refine an (ct (sq ?_))
      obtain ⟨x24, h25, h⟩ := bind_some h
      refine rn1 (c117 _ _ h25) ?_
      refine an (rt ?_)
      cases h
      simp [Ret, TB, EN, *]
    replace h := ite_f b23 h
    obtain ⟨x26, h27, h⟩ := bind_some h
    refine rn2 (c120 _ _ h22) (c120 _ _ h27) ?_
    refine an ?_
    rcases bcas (!x26) with b28 | b28
    · replace h := ite_f b28 h
      refine cf (sk (an (sq (rn ?_))))
      refine an (rt ?_)
      cases h
      simp [Ret, TB, EN, *]
    replace h := ite_t b28 h
    refine ct (sq ?_)
    obtain ⟨x29, h30, h⟩ := bind_some h
    refine rn1 (c117 _ _ h30) ?_
    refine an (rt ?_)
    cases h
    simp [Ret, TB, EN, *]
  replace h := ite_f b5 h
  refine cf (sq (rn ?_))
  refine an (sq (bk ?_))
  refine SW_loop (fun m s => ∃ v8 : Int, s.t 2 = vP 2 1 0 ∧ s.t 3 = vP 3 1 0 ∧ s.t 4 = vP 4 1 0 ∧ s.t 6 = vP 6 1 0 ∧ s.t 8 = vI v8 ∧ s.h 2 = (1, oX 69 (M.Storage.en p0)) ∧ s.h 3 = (1, oX 45 (M.Bucket.en p1)) ∧ s.h 4 = (1, oB 69 [.nil]) ∧ s.h 6 = (1, oB 69 [.row 100011 1]) ∧ s.h 100011 = (1, oW 45 24 M.Bucket.en x1.Buckets) ∧ m_spec_PutBucket_L1 p0 p1 x1 m v8 = some r) fuel ?_ ?_
  · refine ⟨0, ?_, ?_, ?_, ?_, ?_, ?_, ?_, ?_, ?_, ?_, h⟩
    all_goals simp +decide only [F, reduceIte, Nat.reduceAdd, Bool.not_true, Bool.not_false, EN, *, -h]
  rintro mL1 s31 ⟨v8, f32, f33, f34, f35, f36, f37, f38, f39, f40, f41, h⟩
  rcases mL1 with _ | mL1
  · exact absurd h (by simp [m_spec_PutBucket_L1])
  simp only [m_spec_PutBucket_L1] at h
  refine sq (sq ?_)
  rcases bcas (decide (v8 < (List.length p0.Buckets : Int))) with b42 | b42
  · replace h := ite_f b42 h
    refine rd mixed ?_
    refine an (cf (xt (aft_cx (aft_ix (aft_x (an (sq ?_)))))))
    obtain ⟨x103, h104, h⟩ := bind_some h
    obtain ⟨x105, h106, h⟩ := bind_some h
    apply SW_run
    · simp +decide only [E, reduceIte, Nat.reduceAdd, Nat.reduceMul, Bool.not_true, Bool.not_false, ← List.map_take, ← List.map_drop, L, ti45, ti67, ti69, M.Bucket.en, EN, b5, f32, f33, f34, f35, f36, f37, f38, f39, f40, f41, b42]
      refine ⟨by first | exact slcHi_p h104 | exact (slcHi_p h104).2 | exact (slcHi_p h104).2.2, ?_⟩
      try simp +decide only [E, reduceIte, Nat.reduceAdd, Nat.reduceMul, Bool.not_true, Bool.not_false, ← List.map_take, ← List.map_drop, L, ti45, ti67, ti69, M.Bucket.en, EN, b5, f32, f33, f34, f35, f36, f37, f38, f39, f40, f41, b42]
      refine ⟨by (have hb := app_some h106); simp [M.Bucket.en, List.length_append, strBytes_len, ← List.map_take, ← List.map_drop, -List.map_take, -List.map_drop] at hb ⊢ <;> omega, ?_⟩
      try simp +decide only [E, reduceIte, Nat.reduceAdd, Nat.reduceMul, Bool.not_true, Bool.not_false, ← List.map_take, ← List.map_drop, L, ti45, ti67, ti69, M.Bucket.en, EN, b5, f32, f33, f34, f35, f36, f37, f38, f39, f40, f41, b42]
      exact Is.mk _
    refine an (sq ?_)
    refine cu (fun s => s.t 2 = vP 2 1 0 ∧ s.t 3 = vP 3 1 0 ∧ s.t 4 = vP 4 1 0 ∧ s.t 6 = vP 6 1 0 ∧ s.t 8 = vI v8 ∧ s.t 9 = vR 100045 (((s31.h 100045).1 + 1) + 1) ∧ s.h 2 = (1, oX 69 (M.Storage.en p0)) ∧ s.h 3 = (1, oX 45 (M.Bucket.en p1)) ∧ s.h 4 = (1, oB 69 [.nil]) ∧ s.h 6 = (1, oB 69 [.row 100011 1]) ∧ s.h 100011 = (1, .row 45 24 (opqTo 24 0 v8.toNat (List.map M.Bucket.en x1.Buckets)) true) ∧ s.h 100045 = ((((s31.h 100045).1 + 1) + 1), oW 45 24 M.Bucket.en (List.take v8.toNat x1.Buckets)) ∧ True) ?_
    rintro s107 ⟨f108, f109, f110, f111, f112, f113, f114, f115, f116, f117, f118, f119, _⟩
    obtain ⟨x120, h121, h⟩ := bind_some h
    obtain ⟨x122, h123, h⟩ := bind_some h
    refine rn2 (c92 _ _ h121) h123 ?_
    refine an ?_
    refine cu (fun s => s.t 2 = vP 2 1 0 ∧ s.t 4 = vP 4 1 0 ∧ s.t 6 = vP 6 1 0 ∧ s.t 8 = vI v8 ∧ s.t 9 = vR 100045 ((((s31.h 100045).1 + 1) + 1) + 1) ∧ s.h 2 = (1, oX 69 (M.Storage.en p0)) ∧ s.h 4 = (1, oB 69 [.nil]) ∧ s.h 6 = (1, oB 69 [.row 100011 1]) ∧ s.h 100011 = (1, .row 45 24 (opqTo 24 0 v8.toNat (List.map M.Bucket.en x1.Buckets)) true) ∧ s.h 100045 = (((((s31.h 100045).1 + 1) + 1) + 1), oW 45 24 M.Bucket.en ((List.take v8.toNat x1.Buckets) ++ [x120])) ∧ True) ?_
    rintro s124 ⟨f125, f126, f127, f128, f129, f130, f131, f132, f133, f134, _⟩
    obtain ⟨x135, h136, h⟩ := bind_some h
    apply SW_run
    · simp +decide only [E, reduceIte, Nat.reduceAdd, Nat.reduceMul, Bool.not_true, Bool.not_false, ← List.map_take, ← List.map_drop, L, ti45, ti67, ti69, M.Bucket.en, EN, b5, b42, f125, f126, f127, f128, f129, f130, f131, f132, f133, f134]
      refine ⟨by first | exact opq_ge (slcHi_p h104).1 | exact (opq_ge (slcHi_p h104).1).2 | exact (opq_ge (slcHi_p h104).1).2.2, ?_⟩
      try simp +decide only [E, reduceIte, Nat.reduceAdd, Nat.reduceMul, Bool.not_true, Bool.not_false, ← List.map_take, ← List.map_drop, L, ti45, ti67, ti69, M.Bucket.en, EN, b5, b42, f125, f126, f127, f128, f129, f130, f131, f132, f133, f134]
      refine ⟨by (have hb := app_some h136); simp [M.Bucket.en, List.length_append, strBytes_len, ← List.map_take, ← List.map_drop, -List.map_take, -List.map_drop] at hb ⊢ <;> omega, ?_⟩
      try simp +decide only [E, reduceIte, Nat.reduceAdd, Nat.reduceMul, Bool.not_true, Bool.not_false, ← List.map_take, ← List.map_drop, L, ti45, ti67, ti69, M.Bucket.en, EN, b5, b42, f125, f126, f127, f128, f129, f130, f131, f132, f133, f134]
      exact Is.mk _
    refine an (sq (sq ?_))
    refine cu (fun s => s.t 2 = vP 2 1 0 ∧ s.t 4 = vP 4 1 0 ∧ s.t 6 = vP 6 1 0 ∧ s.h 2 = (1, oX 69 (M.Storage.en p0)) ∧ s.h 4 = (1, oB 69 [.nil]) ∧ s.h 6 = (1, oB 69 [.row 100045 (((((s31.h 100045).1 + 1) + 1) + 1) + 1)]) ∧ s.h 100045 = ((((((s31.h 100045).1 + 1) + 1) + 1) + 1), oW 45 24 M.Bucket.en (((List.take v8.toNat x1.Buckets) ++ [x120]) ++ (List.drop v8.toNat x1.Buckets))) ∧ True) ?_
    rintro s137 ⟨f138, f139, f140, f141, f142, f143, f144, _⟩
    obtain ⟨x145, h146, h⟩ := bind_some h
    rcases bcase (!x145) with b147 | b147
    · replace h := ite_t b147 h
      refine rn1 (c120 _ _ h146) ?_
      refine an (ct (sq ?_))
      obtain ⟨x148, h149, h⟩ := bind_some h
      refine rn1 (c117 _ _ h149) ?_
      refine an (rt ?_)
      cases h
      simp [Ret, TB, EN, *]
    replace h := ite_f b147 h
    obtain ⟨x150, h151, h⟩ := bind_some h
    refine rn2 (c120 _ _ h146) (c120 _ _ h151) ?_
    refine an ?_
    rcases bcas (!x150) with b152 | b152
    · replace h := ite_f b152 h
      refine cf (sk (an (sq (rn ?_))))
      refine an (rt ?_)
      cases h
      simp [Ret, TB, EN, *]
    replace h := ite_t b152 h
    refine ct (sq ?_)
    obtain ⟨x153, h154, h⟩ := bind_some h
    refine rn1 (c117 _ _ h154) ?_
    refine an (rt ?_)
    cases h
    simp [Ret, TB, EN, *]
  replace h := ite_t b42 h
  obtain ⟨x43, h44, h⟩ := bind_some h
  obtain ⟨q45, q46, q47⟩ := idx_some h44
  obtain ⟨x48, h49, h⟩ := bind_some h
  refine rd1 mixed (c119 _ _ _ _ h49) ?_
  refine an ?_
  rcases bcase x48 with b50 | b50
  · replace h := ite_t b50 h
    refine ct (sk (an (bk (rn ?_))))
    refine ab ?_
    refine aft_i ⟨mL1, by omega, (IntKind.i64.wrap (v8 + 1)), ?_, ?_, ?_, ?_, ?_, ?_, ?_, ?_, ?_, ?_, h⟩
    all_goals simp +decide only [F, reduceIte, Nat.reduceAdd, Bool.not_true, Bool.not_false, EN, *, -h]
  replace h := ite_f b50 h
  refine cf (xt (aft_cx (aft_ix (aft_x (an (sq ?_))))))
  obtain ⟨x51, h52, h⟩ := bind_some h
  obtain ⟨x53, h54, h⟩ := bind_some h
  apply SW_run
  · simp +decide only [E, reduceIte, Nat.reduceAdd, Nat.reduceMul, Bool.not_true, Bool.not_false, ← List.map_take, ← List.map_drop, L, ti45, ti67, ti69, M.Bucket.en, EN, b5, f32, f33, f34, f35, f36, f37, f38, f39, f40, f41, b42, q45, q46, q47, b50]
    refine ⟨by first | exact slcHi_p h52 | exact (slcHi_p h52).2 | exact (slcHi_p h52).2.2, ?_⟩
    try simp +decide only [E, reduceIte, Nat.reduceAdd, Nat.reduceMul, Bool.not_true, Bool.not_false, ← List.map_take, ← List.map_drop, L, ti45, ti67, ti69, M.Bucket.en, EN, b5, f32, f33, f34, f35, f36, f37, f38, f39, f40, f41, b42, q45, q46, q47, b50]
    refine ⟨by (have hb := app_some h54); simp [M.Bucket.en, List.length_append, strBytes_len, ← List.map_take, ← List.map_drop, -List.map_take, -List.map_drop] at hb ⊢ <;> omega, ?_⟩
    try simp +decide only [E, reduceIte, Nat.reduceAdd, Nat.reduceMul, Bool.not_true, Bool.not_false, ← List.map_take, ← List.map_drop, L, ti45, ti67, ti69, M.Bucket.en, EN, b5, f32, f33, f34, f35, f36, f37, f38, f39, f40, f41, b42, q45, q46, q47, b50]
    exact Is.mk _
  refine an (sq ?_)
  refine cu (fun s => s.t 2 = vP 2 1 0 ∧ s.t 3 = vP 3 1 0 ∧ s.t 4 = vP 4 1 0 ∧ s.t 6 = vP 6 1 0 ∧ s.t 8 = vI v8 ∧ s.t 9 = vR 100045 (((s31.h 100045).1 + 1) + 1) ∧ s.h 2 = (1, oX 69 (M.Storage.en p0)) ∧ s.h 3 = (1, oX 45 (M.Bucket.en p1)) ∧ s.h 4 = (1, oB 69 [.nil]) ∧ s.h 6 = (1, oB 69 [.row 100011 1]) ∧ s.h 100011 = (1, .row 45 24 (opqTo 24 0 v8.toNat (List.map M.Bucket.en x1.Buckets)) true) ∧ s.h 100045 = ((((s31.h 100045).1 + 1) + 1), oW 45 24 M.Bucket.en (List.take v8.toNat x1.Buckets)) ∧ True) ?_
  rintro s55 ⟨f56, f57, f58, f59, f60, f61, f62, f63, f64, f65, f66, f67, _⟩
  obtain ⟨x68, h69, h⟩ := bind_some h
  obtain ⟨x70, h71, h⟩ := bind_some h
  refine rn2 (c92 _ _ h69) h71 ?_
  refine an ?_
  refine cu (fun s => s.t 2 = vP 2 1 0 ∧ s.t 4 = vP 4 1 0 ∧ s.t 6 = vP 6 1 0 ∧ s.t 8 = vI v8 ∧ s.t 9 = vR 100045 ((((s31.h 100045).1 + 1) + 1) + 1) ∧ s.h 2 = (1, oX 69 (M.Storage.en p0)) ∧ s.h 4 = (1, oB 69 [.nil]) ∧ s.h 6 = (1, oB 69 [.row 100011 1]) ∧ s.h 100011 = (1, .row 45 24 (opqTo 24 0 v8.toNat (List.map M.Bucket.en x1.Buckets)) true) ∧ s.h 100045 = (((((s31.h 100045).1 + 1) + 1) + 1), oW 45 24 M.Bucket.en ((List.take v8.toNat x1.Buckets) ++ [x68])) ∧ True) ?_
  rintro s72 ⟨f73, f74, f75, f76, f77, f78, f79, f80, f81, f82, _⟩
  obtain ⟨x83, h84, h⟩ := bind_some h
  apply SW_run
  · simp +decide only [E, reduceIte, Nat.reduceAdd, Nat.reduceMul, Bool.not_true, Bool.not_false, ← List.map_take, ← List.map_drop, L, ti45, ti67, ti69, M.Bucket.en, EN, b5, b42, q45, q46, q47, b50, f73, f74, f75, f76, f77, f78, f79, f80, f81, f82]
    refine ⟨by first | exact opq_ge (slcHi_p h52).1 | exact (opq_ge (slcHi_p h52).1).2 | exact (opq_ge (slcHi_p h52).1).2.2, ?_⟩
    try simp +decide only [E, reduceIte, Nat.reduceAdd, Nat.reduceMul, Bool.not_true, Bool.not_false, ← List.map_take, ← List.map_drop, L, ti45, ti67, ti69, M.Bucket.en, EN, b5, b42, q45, q46, q47, b50, f73, f74, f75, f76, f77, f78, f79, f80, f81, f82]
    refine ⟨by (have hb := app_some h84); simp [M.Bucket.en, List.length_append, strBytes_len, ← List.map_take, ← List.map_drop, -List.map_take, -List.map_drop] at hb ⊢ <;> omega, ?_⟩
    try simp +decide only [E, reduceIte, Nat.reduceAdd, Nat.reduceMul, Bool.not_true, Bool.not_false, ← List.map_take, ← List.map_drop, L, ti45, ti67, ti69, M.Bucket.en, EN, b5, b42, q45, q46, q47, b50, f73, f74, f75, f76, f77, f78, f79, f80, f81, f82]
    exact Is.mk _
  refine an (sq (sq ?_))
  refine cu (fun s => s.t 2 = vP 2 1 0 ∧ s.t 4 = vP 4 1 0 ∧ s.t 6 = vP 6 1 0 ∧ s.h 2 = (1, oX 69 (M.Storage.en p0)) ∧ s.h 4 = (1, oB 69 [.nil]) ∧ s.h 6 = (1, oB 69 [.row 100045 (((((s31.h 100045).1 + 1) + 1) + 1) + 1)]) ∧ s.h 100045 = ((((((s31.h 100045).1 + 1) + 1) + 1) + 1), oW 45 24 M.Bucket.en (((List.take v8.toNat x1.Buckets) ++ [x68]) ++ (List.drop v8.toNat x1.Buckets))) ∧ True) ?_
  rintro s85 ⟨f86, f87, f88, f89, f90, f91, f92, _⟩
  obtain ⟨x93, h94, h⟩ := bind_some h
  rcases bcase (!x93) with b95 | b95
  · replace h := ite_t b95 h
    refine rn1 (c120 _ _ h94) ?_
    refine an (ct (sq ?_))
    obtain ⟨x96, h97, h⟩ := bind_some h
    refine rn1 (c117 _ _ h97) ?_
    refine an (rt ?_)
    cases h
    simp [Ret, TB, EN, *]
  replace h := ite_f b95 h
  obtain ⟨x98, h99, h⟩ := bind_some h
  refine rn2 (c120 _ _ h94) (c120 _ _ h99) ?_
  refine an ?_
  rcases bcas (!x98) with b100 | b100
  · replace h := ite_f b100 h
    refine cf (sk (an (sq (rn ?_))))
    refine an (rt ?_)
    cases h
    simp [Ret, TB, EN, *]
  replace h := ite_t b100 h
  refine ct (sq ?_)
  obtain ⟨x101, h102, h⟩ := bind_some h
  refine rn1 (c117 _ _ h102) ?_
  refine an (rt ?_)
  cases h
  simp [Ret, TB, EN, *]
instance : HasC 43 (type_of% @c43) := ⟨@c43⟩

end Go.Proofs.YtgemmnkhddlhpaaGreat.gen
