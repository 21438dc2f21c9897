/-
  Helper text: walks: each function's contract out of its model. No conditions beyond those of each contract.
-/
import Derived.Test.YtmpbibngijnfeaaGreatUTi
namespace Go.Proofs.YtmpbibngijnfeaaGreat.gen
open Go Go.Sh
set_option linter.unusedVariables false
set_option linter.unusedSimpArgs false
set_option maxRecDepth 20000
set_option maxHeartbeats 4000000
theorem c113 (p0 r) (h : m_laws_markText p0 = some r) : Sc 113 [aI p0] [rS r] := by
 have i1 := inv fun m s => ∃ v0 : Int, ∃ v3 : ByteArray, (s.t 0 = vI v0 ∧ s.t 3 = vS v3) ∧ m_laws_markText_L1 m v0 v3 = some r
 have e1 := @m_laws_markText_L1.eq_2
 unfold m_laws_markText at h
 exact sgo 20 [.tmp 2] Tryz.func113
instance : HasC 113 (type_of% @c113) := ⟨@c113⟩

set_option maxHeartbeats 4000000 in
theorem c_laws_markByteS (p0 : List Int) (p1 : Int) (r : (List Int × Int)) (h : m_laws_markByteS p0 p1 = some r) : MCalls Tryz.prog 43 false ([.sl (List.map enB p0)]) ([.sl (List.map enB r.1)]) p1 r.2 := by
  unfold m_laws_markByteS at h
  refine mcalls_of (N := 20) (r := 4) Tryz.func43 rfl rfl rfl (by decide +kernel) (by decide) fun cx => ?_
  refine msq (mrn ?_)
  refine man (msq (msq (mrn ?_)))
  refine man (mbk ?_)
  refine MW_loop (fun m s => ∃ v1 : Int, ∃ v5 : Int, ∃ r99 : List Int, s.t 0 = .unk ∧ s.m 0 = some (.top 0) ∧ s.t 1 = .v false [.dat (.int .i64 v1)] ∧ s.t 5 = .v false [.dat (.int .i64 v5)] ∧ s.ds = [.sl (List.map enB r99)] ∧ m_laws_markByteS_L1 m v1 v5 r99 = some r) fuel ?_ ?_
  · refine ⟨p1, 0, p0, ?_, ?_, ?_, ?_, ?_, h⟩
    all_goals simp +decide only [MF, F, reduceIte, Nat.reduceAdd, Bool.not_true, Bool.not_false, EN, *, -h]
  rintro mL1 s1 ⟨v1, v5, r99, f2, f3, f4, f5, f6, h⟩
  rcases mL1 with _ | mL1
  · exact absurd h (by simp [m_laws_markByteS_L1])
  simp only [m_laws_markByteS_L1] at h
  refine msq (msq (mrn ?_))
  refine man ?_
  rcases bcas (decide (v5 < (List.length r99 : Int))) with b7 | b7
  · replace h := ite_f b7 h
    refine mcf (mxt (maft_cx (maft_ix (maft_x (man (msq (mrn ?_)))))))
    refine man (mrt ?_)
    cases h
    refine ⟨?_, ?_⟩ <;> (try simp +decide only [MF, F, ME, reduceIte, Nat.reduceAdd, EN, *])
  replace h := ite_t b7 h
  refine mct (msk (man (msq (mbk (msq ?_)))))
  obtain ⟨x8, h9, h⟩ := bind_some h
  obtain ⟨q10, q11, q12⟩ := idx_some h9
  refine mrn ?_
  obtain ⟨y13, e14, h⟩ := bind_some h
  replace e14 := (Option.some.inj e14).symm
  refine man ?_
  refine mcu (fun s => s.t 0 = .unk ∧ s.m 0 = some (.top 0) ∧ s.t 1 = .v false [.dat (.int .i64 v1)] ∧ s.t 5 = .v false [.dat (.int .i64 v5)] ∧ s.ds = [.sl (List.map enB y13)] ∧ True) ?_
  rintro s15 ⟨f16, f17, f18, f19, f20, _⟩
  clear e14
  refine mrn ?_
  refine mab (man (mrn ?_))
  refine maft_i ⟨mL1, by omega, (IntKind.i64.wrap (v1 + 1)), (IntKind.i64.wrap (v5 + 1)), y13, ?_, ?_, ?_, ?_, ?_, h⟩
  all_goals simp +decide only [MF, F, reduceIte, Nat.reduceAdd, Bool.not_true, Bool.not_false, EN, *, -h]

set_option maxHeartbeats 4000000 in
theorem c_laws_markCachedS (p0 : List M.Cached) (p1 : Int) (r : (List M.Cached × Int)) (h : m_laws_markCachedS p0 p1 = some r) : MCalls Tryz.prog 92 false ([.sl (List.map M.Cached.en p0)]) ([.sl (List.map M.Cached.en r.1)]) p1 r.2 := by
  unfold m_laws_markCachedS at h
  refine mcalls_of (N := 71) (r := 4) Tryz.func92 rfl rfl rfl (by decide +kernel) (by decide) fun cx => ?_
  refine msq (mrn ?_)
  refine man (msq (msq (mrn ?_)))
  refine man (mbk ?_)
  refine MW_loop (fun m s => ∃ v1 : Int, ∃ v5 : Int, ∃ r99 : List M.Cached, s.t 0 = .unk ∧ s.m 0 = some (.top 0) ∧ s.t 1 = .v false [.dat (.int .i64 v1)] ∧ s.t 5 = .v false [.dat (.int .i64 v5)] ∧ s.ds = [.sl (List.map M.Cached.en r99)] ∧ m_laws_markCachedS_L1 m v1 v5 r99 = some r) fuel ?_ ?_
  · refine ⟨p1, 0, p0, ?_, ?_, ?_, ?_, ?_, h⟩
    all_goals simp +decide only [MF, F, reduceIte, Nat.reduceAdd, Bool.not_true, Bool.not_false, EN, *, -h]
  rintro mL1 s1 ⟨v1, v5, r99, f2, f3, f4, f5, f6, h⟩
  rcases mL1 with _ | mL1
  · exact absurd h (by simp [m_laws_markCachedS_L1])
  simp only [m_laws_markCachedS_L1] at h
  refine msq (msq (mrn ?_))
  refine man ?_
  rcases bcas (decide (v5 < (List.length r99 : Int))) with b7 | b7
  · replace h := ite_f b7 h
    refine mcf (mxt (maft_cx (maft_ix (maft_x (man (msq (mrn ?_)))))))
    refine man (mrt ?_)
    cases h
    refine ⟨?_, ?_⟩ <;> (try simp +decide only [MF, F, ME, reduceIte, Nat.reduceAdd, EN, *])
  replace h := ite_t b7 h
  refine mct (msk (man (msq (mbk (msq ?_)))))
  obtain ⟨x8, h9, h⟩ := bind_some h
  obtain ⟨x10, h11, h⟩ := bind_some h
  obtain ⟨q12, q13, q14⟩ := idx_some h11
  refine mrn1 (c113 _ _ h9) ?_
  obtain ⟨y15, e16, h⟩ := bind_some h
  replace e16 := (Option.some.inj e16).symm
  refine man (msq ?_)
  refine mcu (fun s => s.t 0 = .unk ∧ s.m 0 = some (.top 0) ∧ s.t 1 = .v false [.dat (.int .i64 v1)] ∧ s.t 5 = .v false [.dat (.int .i64 v5)] ∧ s.ds = [.sl (List.map M.Cached.en y15)] ∧ True) ?_
  rintro s17 ⟨f18, f19, f20, f21, f22, _⟩
  clear e16
  refine mrn ?_
  refine man (msq ?_)
  obtain ⟨x23, h24, h⟩ := bind_some h
  obtain ⟨x25, h26, h⟩ := bind_some h
  obtain ⟨q27, q28, q29⟩ := idx_some h26
  refine mrn1 (c113 _ _ h24) ?_
  obtain ⟨y30, e31, h⟩ := bind_some h
  replace e31 := (Option.some.inj e31).symm
  refine man (msq ?_)
  refine mcu (fun s => s.t 0 = .unk ∧ s.m 0 = some (.top 0) ∧ s.t 1 = .v false [.dat (.int .i64 (IntKind.i64.wrap (v1 + 1)))] ∧ s.t 5 = .v false [.dat (.int .i64 v5)] ∧ s.ds = [.sl (List.map M.Cached.en y30)] ∧ True) ?_
  rintro s32 ⟨f33, f34, f35, f36, f37, _⟩
  clear e31
  refine mrn ?_
  refine man (msq ?_)
  obtain ⟨x38, h39, h⟩ := bind_some h
  obtain ⟨q40, q41, q42⟩ := idx_some h39
  refine mrn ?_
  obtain ⟨y43, e44, h⟩ := bind_some h
  replace e44 := (Option.some.inj e44).symm
  refine man (msq ?_)
  refine mcu (fun s => s.t 0 = .unk ∧ s.m 0 = some (.top 0) ∧ s.t 1 = .v false [.dat (.int .i64 (IntKind.i64.wrap ((IntKind.i64.wrap (v1 + 1)) + 1)))] ∧ s.t 5 = .v false [.dat (.int .i64 v5)] ∧ s.ds = [.sl (List.map M.Cached.en y43)] ∧ True) ?_
  rintro s45 ⟨f46, f47, f48, f49, f50, _⟩
  clear e44
  refine mrn ?_
  refine man (msq ?_)
  obtain ⟨x51, h52, h⟩ := bind_some h
  obtain ⟨q53, q54, q55⟩ := idx_some h52
  refine mrn ?_
  obtain ⟨y56, e57, h⟩ := bind_some h
  replace e57 := (Option.some.inj e57).symm
  refine man (msq ?_)
  refine mcu (fun s => s.t 0 = .unk ∧ s.m 0 = some (.top 0) ∧ s.t 1 = .v false [.dat (.int .i64 (IntKind.i64.wrap ((IntKind.i64.wrap ((IntKind.i64.wrap (v1 + 1)) + 1)) + 1)))] ∧ s.t 5 = .v false [.dat (.int .i64 v5)] ∧ s.ds = [.sl (List.map M.Cached.en y56)] ∧ True) ?_
  rintro s58 ⟨f59, f60, f61, f62, f63, _⟩
  clear e57
  refine mrn ?_
  refine man (msq ?_)
  obtain ⟨x64, h65, h⟩ := bind_some h
  obtain ⟨q66, q67, q68⟩ := idx_some h65
  refine mrn ?_
  obtain ⟨y69, e70, h⟩ := bind_some h
  replace e70 := (Option.some.inj e70).symm
  refine man (msq ?_)
  refine mcu (fun s => s.t 0 = .unk ∧ s.m 0 = some (.top 0) ∧ s.t 1 = .v false [.dat (.int .i64 (IntKind.i64.wrap ((IntKind.i64.wrap ((IntKind.i64.wrap ((IntKind.i64.wrap (v1 + 1)) + 1)) + 1)) + 1)))] ∧ s.t 5 = .v false [.dat (.int .i64 v5)] ∧ s.ds = [.sl (List.map M.Cached.en y69)] ∧ True) ?_
  rintro s71 ⟨f72, f73, f74, f75, f76, _⟩
  clear e70
  refine mrn ?_
  refine man (msq ?_)
  obtain ⟨x77, h78, h⟩ := bind_some h
  obtain ⟨q79, q80, q81⟩ := idx_some h78
  obtain ⟨x82, h83, h⟩ := bind_some h
  refine mrn1 (c_laws_markByteS _ _ _ h83) ?_
  obtain ⟨y84, e85, h⟩ := bind_some h
  replace e85 := (Option.some.inj e85).symm
  refine man (msq ?_)
  refine mcu (fun s => s.t 0 = .unk ∧ s.m 0 = some (.top 0) ∧ s.t 1 = .v false [.dat (.int .i64 x82.2)] ∧ s.t 5 = .v false [.dat (.int .i64 v5)] ∧ s.ds = [.sl (List.map M.Cached.en y84)] ∧ True) ?_
  rintro s86 ⟨f87, f88, f89, f90, f91, _⟩
  clear e85
  obtain ⟨x92, h93, h⟩ := bind_some h
  obtain ⟨q94, q95, q96⟩ := idx_some h93
  refine mrn ?_
  obtain ⟨y97, e98, h⟩ := bind_some h
  replace e98 := (Option.some.inj e98).symm
  refine man ?_
  refine mcu (fun s => s.t 0 = .unk ∧ s.m 0 = some (.top 0) ∧ s.t 1 = .v false [.dat (.int .i64 x82.2)] ∧ s.t 5 = .v false [.dat (.int .i64 v5)] ∧ s.ds = [.sl (List.map M.Cached.en y97)] ∧ True) ?_
  rintro s99 ⟨f100, f101, f102, f103, f104, _⟩
  clear e98
  refine mrn ?_
  refine mab (man (mrn ?_))
  refine maft_i ⟨mL1, by omega, (IntKind.i64.wrap (x82.2 + 1)), (IntKind.i64.wrap (v5 + 1)), y97, ?_, ?_, ?_, ?_, ?_, h⟩
  all_goals simp +decide only [MF, F, reduceIte, Nat.reduceAdd, Bool.not_true, Bool.not_false, EN, *, -h]

set_option maxHeartbeats 4000000 in
theorem c_laws_markCacheS (p0 : List M.Cache) (p1 : Int) (r : (List M.Cache × Int)) (h : m_laws_markCacheS p0 p1 = some r) : MCalls Tryz.prog 60 false ([.sl (List.map M.Cache.en p0)]) ([.sl (List.map M.Cache.en r.1)]) p1 r.2 := by
  unfold m_laws_markCacheS at h
  refine mcalls_of (N := 27) (r := 4) Tryz.func60 rfl rfl rfl (by decide +kernel) (by decide) fun cx => ?_
  refine msq (mrn ?_)
  refine man (msq (msq (mrn ?_)))
  refine man (mbk ?_)
  refine MW_loop (fun m s => ∃ v1 : Int, ∃ v5 : Int, ∃ r99 : List M.Cache, s.t 0 = .unk ∧ s.m 0 = some (.top 0) ∧ s.t 1 = .v false [.dat (.int .i64 v1)] ∧ s.t 5 = .v false [.dat (.int .i64 v5)] ∧ s.ds = [.sl (List.map M.Cache.en r99)] ∧ m_laws_markCacheS_L1 m v1 v5 r99 = some r) fuel ?_ ?_
  · refine ⟨p1, 0, p0, ?_, ?_, ?_, ?_, ?_, h⟩
    all_goals simp +decide only [MF, F, reduceIte, Nat.reduceAdd, Bool.not_true, Bool.not_false, EN, *, -h]
  rintro mL1 s1 ⟨v1, v5, r99, f2, f3, f4, f5, f6, h⟩
  rcases mL1 with _ | mL1
  · exact absurd h (by simp [m_laws_markCacheS_L1])
  simp only [m_laws_markCacheS_L1] at h
  refine msq (msq (mrn ?_))
  refine man ?_
  rcases bcas (decide (v5 < (List.length r99 : Int))) with b7 | b7
  · replace h := ite_f b7 h
    refine mcf (mxt (maft_cx (maft_ix (maft_x (man (msq (mrn ?_)))))))
    refine man (mrt ?_)
    cases h
    refine ⟨?_, ?_⟩ <;> (try simp +decide only [MF, F, ME, reduceIte, Nat.reduceAdd, EN, *])
  replace h := ite_t b7 h
  refine mct (msk (man (msq (mbk (msq ?_)))))
  obtain ⟨x8, h9, h⟩ := bind_some h
  obtain ⟨q10, q11, q12⟩ := idx_some h9
  refine mrn ?_
  obtain ⟨y13, e14, h⟩ := bind_some h
  replace e14 := (Option.some.inj e14).symm
  refine man (msq ?_)
  refine mcu (fun s => s.t 0 = .unk ∧ s.m 0 = some (.top 0) ∧ s.t 1 = .v false [.dat (.int .i64 v1)] ∧ s.t 5 = .v false [.dat (.int .i64 v5)] ∧ s.ds = [.sl (List.map M.Cache.en y13)] ∧ True) ?_
  rintro s15 ⟨f16, f17, f18, f19, f20, _⟩
  clear e14
  refine mrn ?_
  refine man ?_
  obtain ⟨x21, h22, h⟩ := bind_some h
  obtain ⟨q23, q24, q25⟩ := idx_some h22
  obtain ⟨x26, h27, h⟩ := bind_some h
  refine mrn1 (c_laws_markCachedS _ _ _ h27) ?_
  obtain ⟨y28, e29, h⟩ := bind_some h
  replace e29 := (Option.some.inj e29).symm
  refine mab (man ?_)
  refine mcu (fun s => s.t 0 = .unk ∧ s.m 0 = some (.top 0) ∧ s.t 1 = .v false [.dat (.int .i64 x26.2)] ∧ s.t 5 = .v false [.dat (.int .i64 v5)] ∧ s.ds = [.sl (List.map M.Cache.en y28)] ∧ True) ?_
  rintro s30 ⟨f31, f32, f33, f34, f35, _⟩
  clear e29
  refine mrn ?_
  refine maft_i ⟨mL1, by omega, x26.2, (IntKind.i64.wrap (v5 + 1)), y28, ?_, ?_, ?_, ?_, ?_, h⟩
  all_goals simp +decide only [MF, F, reduceIte, Nat.reduceAdd, Bool.not_true, Bool.not_false, EN, *, -h]

set_option maxHeartbeats 4000000 in
theorem c_laws_markCacheSet (p0 : M.CacheSet) (p1 : Int) (r : (List M.Cache × Int)) (h : m_laws_markCacheSet p0 p1 = some r) : MCalls Tryz.prog 30 true (M.CacheSet.en p0) ([.sl (List.map M.Cache.en r.1)]) p1 r.2 := by
  unfold m_laws_markCacheSet at h
  simp only [M.CacheSet.en]
  refine mcalls_of (N := 10) (r := 4) Tryz.func30 rfl rfl rfl (by decide +kernel) (by decide) fun cx => ?_
  refine msq (mrn ?_)
  refine man (msq ?_)
  obtain ⟨x1, h2, h⟩ := bind_some h
  refine mrn1 (c_laws_markCacheS _ _ _ h2) ?_
  refine man (msq (mrn ?_))
  refine man (mrt ?_)
  cases h
  refine ⟨?_, ?_⟩ <;> (try simp +decide only [MF, F, ME, reduceIte, Nat.reduceAdd, EN, *])

set_option maxHeartbeats 4000000 in
theorem c_laws_markFieldS (p0 : List M.Field) (p1 : Int) (r : (List M.Field × Int)) (h : m_laws_markFieldS p0 p1 = some r) : MCalls Tryz.prog 127 false ([.sl (List.map M.Field.en p0)]) ([.sl (List.map M.Field.en r.1)]) p1 r.2 := by
  unfold m_laws_markFieldS at h
  refine mcalls_of (N := 28) (r := 4) Tryz.func127 rfl rfl rfl (by decide +kernel) (by decide) fun cx => ?_
  refine msq (mrn ?_)
  refine man (msq (msq (mrn ?_)))
  refine man (mbk ?_)
  refine MW_loop (fun m s => ∃ v1 : Int, ∃ v5 : Int, ∃ r99 : List M.Field, s.t 0 = .unk ∧ s.m 0 = some (.top 0) ∧ s.t 1 = .v false [.dat (.int .i64 v1)] ∧ s.t 5 = .v false [.dat (.int .i64 v5)] ∧ s.ds = [.sl (List.map M.Field.en r99)] ∧ m_laws_markFieldS_L1 m v1 v5 r99 = some r) fuel ?_ ?_
  · refine ⟨p1, 0, p0, ?_, ?_, ?_, ?_, ?_, h⟩
    all_goals simp +decide only [MF, F, reduceIte, Nat.reduceAdd, Bool.not_true, Bool.not_false, EN, *, -h]
  rintro mL1 s1 ⟨v1, v5, r99, f2, f3, f4, f5, f6, h⟩
  rcases mL1 with _ | mL1
  · exact absurd h (by simp [m_laws_markFieldS_L1])
  simp only [m_laws_markFieldS_L1] at h
  refine msq (msq (mrn ?_))
  refine man ?_
  rcases bcas (decide (v5 < (List.length r99 : Int))) with b7 | b7
  · replace h := ite_f b7 h
    refine mcf (mxt (maft_cx (maft_ix (maft_x (man (msq (mrn ?_)))))))
    refine man (mrt ?_)
    cases h
    refine ⟨?_, ?_⟩ <;> (try simp +decide only [MF, F, ME, reduceIte, Nat.reduceAdd, EN, *])
  replace h := ite_t b7 h
  refine mct (msk (man (msq (mbk (msq ?_)))))
  obtain ⟨x8, h9, h⟩ := bind_some h
  obtain ⟨x10, h11, h⟩ := bind_some h
  obtain ⟨q12, q13, q14⟩ := idx_some h11
  refine mrn1 (c113 _ _ h9) ?_
  obtain ⟨y15, e16, h⟩ := bind_some h
  replace e16 := (Option.some.inj e16).symm
  refine man (msq ?_)
  refine mcu (fun s => s.t 0 = .unk ∧ s.m 0 = some (.top 0) ∧ s.t 1 = .v false [.dat (.int .i64 v1)] ∧ s.t 5 = .v false [.dat (.int .i64 v5)] ∧ s.ds = [.sl (List.map M.Field.en y15)] ∧ True) ?_
  rintro s17 ⟨f18, f19, f20, f21, f22, _⟩
  clear e16
  refine mrn ?_
  refine man (msq ?_)
  obtain ⟨x23, h24, h⟩ := bind_some h
  obtain ⟨q25, q26, q27⟩ := idx_some h24
  refine mrn ?_
  obtain ⟨y28, e29, h⟩ := bind_some h
  replace e29 := (Option.some.inj e29).symm
  refine man ?_
  refine mcu (fun s => s.t 0 = .unk ∧ s.m 0 = some (.top 0) ∧ s.t 1 = .v false [.dat (.int .i64 (IntKind.i64.wrap (v1 + 1)))] ∧ s.t 5 = .v false [.dat (.int .i64 v5)] ∧ s.ds = [.sl (List.map M.Field.en y28)] ∧ True) ?_
  rintro s30 ⟨f31, f32, f33, f34, f35, _⟩
  clear e29
  refine mrn ?_
  refine mab (man (mrn ?_))
  refine maft_i ⟨mL1, by omega, (IntKind.i64.wrap ((IntKind.i64.wrap (v1 + 1)) + 1)), (IntKind.i64.wrap (v5 + 1)), y28, ?_, ?_, ?_, ?_, ?_, h⟩
  all_goals simp +decide only [MF, F, reduceIte, Nat.reduceAdd, Bool.not_true, Bool.not_false, EN, *, -h]

set_option maxHeartbeats 4000000 in
theorem c_laws_markItemS (p0 : List M.Item) (p1 : Int) (r : (List M.Item × Int)) (h : m_laws_markItemS p0 p1 = some r) : MCalls Tryz.prog 86 false ([.sl (List.map M.Item.en p0)]) ([.sl (List.map M.Item.en r.1)]) p1 r.2 := by
  unfold m_laws_markItemS at h
  refine mcalls_of (N := 46) (r := 4) Tryz.func86 rfl rfl rfl (by decide +kernel) (by decide) fun cx => ?_
  refine msq (mrn ?_)
  refine man (msq (msq (mrn ?_)))
  refine man (mbk ?_)
  refine MW_loop (fun m s => ∃ v1 : Int, ∃ v5 : Int, ∃ r99 : List M.Item, s.t 0 = .unk ∧ s.m 0 = some (.top 0) ∧ s.t 1 = .v false [.dat (.int .i64 v1)] ∧ s.t 5 = .v false [.dat (.int .i64 v5)] ∧ s.ds = [.sl (List.map M.Item.en r99)] ∧ m_laws_markItemS_L1 m v1 v5 r99 = some r) fuel ?_ ?_
  · refine ⟨p1, 0, p0, ?_, ?_, ?_, ?_, ?_, h⟩
    all_goals simp +decide only [MF, F, reduceIte, Nat.reduceAdd, Bool.not_true, Bool.not_false, EN, *, -h]
  rintro mL1 s1 ⟨v1, v5, r99, f2, f3, f4, f5, f6, h⟩
  rcases mL1 with _ | mL1
  · exact absurd h (by simp [m_laws_markItemS_L1])
  simp only [m_laws_markItemS_L1] at h
  refine msq (msq (mrn ?_))
  refine man ?_
  rcases bcas (decide (v5 < (List.length r99 : Int))) with b7 | b7
  · replace h := ite_f b7 h
    refine mcf (mxt (maft_cx (maft_ix (maft_x (man (msq (mrn ?_)))))))
    refine man (mrt ?_)
    cases h
    refine ⟨?_, ?_⟩ <;> (try simp +decide only [MF, F, ME, reduceIte, Nat.reduceAdd, EN, *])
  replace h := ite_t b7 h
  refine mct (msk (man (msq (mbk (msq ?_)))))
  obtain ⟨x8, h9, h⟩ := bind_some h
  obtain ⟨q10, q11, q12⟩ := idx_some h9
  refine mrn ?_
  obtain ⟨y13, e14, h⟩ := bind_some h
  replace e14 := (Option.some.inj e14).symm
  refine man (msq ?_)
  refine mcu (fun s => s.t 0 = .unk ∧ s.m 0 = some (.top 0) ∧ s.t 1 = .v false [.dat (.int .i64 v1)] ∧ s.t 5 = .v false [.dat (.int .i64 v5)] ∧ s.ds = [.sl (List.map M.Item.en y13)] ∧ True) ?_
  rintro s15 ⟨f16, f17, f18, f19, f20, _⟩
  clear e14
  refine mrn ?_
  refine man (msq ?_)
  obtain ⟨x21, h22, h⟩ := bind_some h
  obtain ⟨q23, q24, q25⟩ := idx_some h22
  refine mrn ?_
  obtain ⟨y26, e27, h⟩ := bind_some h
  replace e27 := (Option.some.inj e27).symm
  refine man (msq ?_)
  refine mcu (fun s => s.t 0 = .unk ∧ s.m 0 = some (.top 0) ∧ s.t 1 = .v false [.dat (.int .i64 (IntKind.i64.wrap (v1 + 1)))] ∧ s.t 5 = .v false [.dat (.int .i64 v5)] ∧ s.ds = [.sl (List.map M.Item.en y26)] ∧ True) ?_
  rintro s28 ⟨f29, f30, f31, f32, f33, _⟩
  clear e27
  refine mrn ?_
  refine man (msq ?_)
  obtain ⟨x34, h35, h⟩ := bind_some h
  obtain ⟨x36, h37, h⟩ := bind_some h
  obtain ⟨q38, q39, q40⟩ := idx_some h37
  refine mrn1 (c113 _ _ h35) ?_
  obtain ⟨y41, e42, h⟩ := bind_some h
  replace e42 := (Option.some.inj e42).symm
  refine man (msq ?_)
  refine mcu (fun s => s.t 0 = .unk ∧ s.m 0 = some (.top 0) ∧ s.t 1 = .v false [.dat (.int .i64 (IntKind.i64.wrap ((IntKind.i64.wrap (v1 + 1)) + 1)))] ∧ s.t 5 = .v false [.dat (.int .i64 v5)] ∧ s.ds = [.sl (List.map M.Item.en y41)] ∧ True) ?_
  rintro s43 ⟨f44, f45, f46, f47, f48, _⟩
  clear e42
  refine mrn ?_
  refine man ?_
  obtain ⟨x49, h50, h⟩ := bind_some h
  obtain ⟨q51, q52, q53⟩ := idx_some h50
  obtain ⟨x54, h55, h⟩ := bind_some h
  refine mrn1 (c_laws_markFieldS _ _ _ h55) ?_
  obtain ⟨y56, e57, h⟩ := bind_some h
  replace e57 := (Option.some.inj e57).symm
  refine mab (man ?_)
  refine mcu (fun s => s.t 0 = .unk ∧ s.m 0 = some (.top 0) ∧ s.t 1 = .v false [.dat (.int .i64 x54.2)] ∧ s.t 5 = .v false [.dat (.int .i64 v5)] ∧ s.ds = [.sl (List.map M.Item.en y56)] ∧ True) ?_
  rintro s58 ⟨f59, f60, f61, f62, f63, _⟩
  clear e57
  refine mrn ?_
  refine maft_i ⟨mL1, by omega, x54.2, (IntKind.i64.wrap (v5 + 1)), y56, ?_, ?_, ?_, ?_, ?_, h⟩
  all_goals simp +decide only [MF, F, reduceIte, Nat.reduceAdd, Bool.not_true, Bool.not_false, EN, *, -h]

set_option maxHeartbeats 4000000 in
theorem c_laws_markStoreS (p0 : List M.Store) (p1 : Int) (r : (List M.Store × Int)) (h : m_laws_markStoreS p0 p1 = some r) : MCalls Tryz.prog 71 false ([.sl (List.map M.Store.en p0)]) ([.sl (List.map M.Store.en r.1)]) p1 r.2 := by
  unfold m_laws_markStoreS at h
  refine mcalls_of (N := 35) (r := 4) Tryz.func71 rfl rfl rfl (by decide +kernel) (by decide) fun cx => ?_
  refine msq (mrn ?_)
  refine man (msq (msq (mrn ?_)))
  refine man (mbk ?_)
  refine MW_loop (fun m s => ∃ v1 : Int, ∃ v5 : Int, ∃ r99 : List M.Store, s.t 0 = .unk ∧ s.m 0 = some (.top 0) ∧ s.t 1 = .v false [.dat (.int .i64 v1)] ∧ s.t 5 = .v false [.dat (.int .i64 v5)] ∧ s.ds = [.sl (List.map M.Store.en r99)] ∧ m_laws_markStoreS_L1 m v1 v5 r99 = some r) fuel ?_ ?_
  · refine ⟨p1, 0, p0, ?_, ?_, ?_, ?_, ?_, h⟩
    all_goals simp +decide only [MF, F, reduceIte, Nat.reduceAdd, Bool.not_true, Bool.not_false, EN, *, -h]
  rintro mL1 s1 ⟨v1, v5, r99, f2, f3, f4, f5, f6, h⟩
  rcases mL1 with _ | mL1
  · exact absurd h (by simp [m_laws_markStoreS_L1])
  simp only [m_laws_markStoreS_L1] at h
  refine msq (msq (mrn ?_))
  refine man ?_
  rcases bcas (decide (v5 < (List.length r99 : Int))) with b7 | b7
  · replace h := ite_f b7 h
    refine mcf (mxt (maft_cx (maft_ix (maft_x (man (msq (mrn ?_)))))))
    refine man (mrt ?_)
    cases h
    refine ⟨?_, ?_⟩ <;> (try simp +decide only [MF, F, ME, reduceIte, Nat.reduceAdd, EN, *])
  replace h := ite_t b7 h
  refine mct (msk (man (msq (mbk (msq ?_)))))
  obtain ⟨x8, h9, h⟩ := bind_some h
  obtain ⟨x10, h11, h⟩ := bind_some h
  obtain ⟨q12, q13, q14⟩ := idx_some h11
  refine mrn1 (c113 _ _ h9) ?_
  obtain ⟨y15, e16, h⟩ := bind_some h
  replace e16 := (Option.some.inj e16).symm
  refine man (msq ?_)
  refine mcu (fun s => s.t 0 = .unk ∧ s.m 0 = some (.top 0) ∧ s.t 1 = .v false [.dat (.int .i64 v1)] ∧ s.t 5 = .v false [.dat (.int .i64 v5)] ∧ s.ds = [.sl (List.map M.Store.en y15)] ∧ True) ?_
  rintro s17 ⟨f18, f19, f20, f21, f22, _⟩
  clear e16
  refine mrn ?_
  refine man (msq ?_)
  obtain ⟨x23, h24, h⟩ := bind_some h
  obtain ⟨q25, q26, q27⟩ := idx_some h24
  obtain ⟨x28, h29, h⟩ := bind_some h
  refine mrn1 (c_laws_markItemS _ _ _ h29) ?_
  obtain ⟨y30, e31, h⟩ := bind_some h
  replace e31 := (Option.some.inj e31).symm
  refine man (msq ?_)
  refine mcu (fun s => s.t 0 = .unk ∧ s.m 0 = some (.top 0) ∧ s.t 1 = .v false [.dat (.int .i64 x28.2)] ∧ s.t 5 = .v false [.dat (.int .i64 v5)] ∧ s.ds = [.sl (List.map M.Store.en y30)] ∧ True) ?_
  rintro s32 ⟨f33, f34, f35, f36, f37, _⟩
  clear e31
  obtain ⟨x38, h39, h⟩ := bind_some h
  obtain ⟨q40, q41, q42⟩ := idx_some h39
  refine mrn ?_
  obtain ⟨y43, e44, h⟩ := bind_some h
  replace e44 := (Option.some.inj e44).symm
  refine man ?_
  refine mcu (fun s => s.t 0 = .unk ∧ s.m 0 = some (.top 0) ∧ s.t 1 = .v false [.dat (.int .i64 x28.2)] ∧ s.t 5 = .v false [.dat (.int .i64 v5)] ∧ s.ds = [.sl (List.map M.Store.en y43)] ∧ True) ?_
  rintro s45 ⟨f46, f47, f48, f49, f50, _⟩
  clear e44
  refine mrn ?_
  refine mab (man (mrn ?_))
  refine maft_i ⟨mL1, by omega, (IntKind.i64.wrap (x28.2 + 1)), (IntKind.i64.wrap (v5 + 1)), y43, ?_, ?_, ?_, ?_, ?_, h⟩
  all_goals simp +decide only [MF, F, reduceIte, Nat.reduceAdd, Bool.not_true, Bool.not_false, EN, *, -h]

set_option maxHeartbeats 4000000 in
theorem c_laws_markIndexDefS (p0 : List M.IndexDef) (p1 : Int) (r : (List M.IndexDef × Int)) (h : m_laws_markIndexDefS p0 p1 = some r) : MCalls Tryz.prog 72 false ([.sl (List.map M.IndexDef.en p0)]) ([.sl (List.map M.IndexDef.en r.1)]) p1 r.2 := by
  unfold m_laws_markIndexDefS at h
  refine mcalls_of (N := 29) (r := 4) Tryz.func72 rfl rfl rfl (by decide +kernel) (by decide) fun cx => ?_
  refine msq (mrn ?_)
  refine man (msq (msq (mrn ?_)))
  refine man (mbk ?_)
  refine MW_loop (fun m s => ∃ v1 : Int, ∃ v5 : Int, ∃ r99 : List M.IndexDef, s.t 0 = .unk ∧ s.m 0 = some (.top 0) ∧ s.t 1 = .v false [.dat (.int .i64 v1)] ∧ s.t 5 = .v false [.dat (.int .i64 v5)] ∧ s.ds = [.sl (List.map M.IndexDef.en r99)] ∧ m_laws_markIndexDefS_L1 m v1 v5 r99 = some r) fuel ?_ ?_
  · refine ⟨p1, 0, p0, ?_, ?_, ?_, ?_, ?_, h⟩
    all_goals simp +decide only [MF, F, reduceIte, Nat.reduceAdd, Bool.not_true, Bool.not_false, EN, *, -h]
  rintro mL1 s1 ⟨v1, v5, r99, f2, f3, f4, f5, f6, h⟩
  rcases mL1 with _ | mL1
  · exact absurd h (by simp [m_laws_markIndexDefS_L1])
  simp only [m_laws_markIndexDefS_L1] at h
  refine msq (msq (mrn ?_))
  refine man ?_
  rcases bcas (decide (v5 < (List.length r99 : Int))) with b7 | b7
  · replace h := ite_f b7 h
    refine mcf (mxt (maft_cx (maft_ix (maft_x (man (msq (mrn ?_)))))))
    refine man (mrt ?_)
    cases h
    refine ⟨?_, ?_⟩ <;> (try simp +decide only [MF, F, ME, reduceIte, Nat.reduceAdd, EN, *])
  replace h := ite_t b7 h
  refine mct (msk (man (msq (mbk (msq ?_)))))
  obtain ⟨x8, h9, h⟩ := bind_some h
  obtain ⟨x10, h11, h⟩ := bind_some h
  obtain ⟨q12, q13, q14⟩ := idx_some h11
  refine mrn1 (c113 _ _ h9) ?_
  obtain ⟨y15, e16, h⟩ := bind_some h
  replace e16 := (Option.some.inj e16).symm
  refine man (msq ?_)
  refine mcu (fun s => s.t 0 = .unk ∧ s.m 0 = some (.top 0) ∧ s.t 1 = .v false [.dat (.int .i64 v1)] ∧ s.t 5 = .v false [.dat (.int .i64 v5)] ∧ s.ds = [.sl (List.map M.IndexDef.en y15)] ∧ True) ?_
  rintro s17 ⟨f18, f19, f20, f21, f22, _⟩
  clear e16
  refine mrn ?_
  refine man (msq ?_)
  obtain ⟨x23, h24, h⟩ := bind_some h
  obtain ⟨x25, h26, h⟩ := bind_some h
  obtain ⟨q27, q28, q29⟩ := idx_some h26
  refine mrn1 (c113 _ _ h24) ?_
  obtain ⟨y30, e31, h⟩ := bind_some h
  replace e31 := (Option.some.inj e31).symm
  refine man ?_
  refine mcu (fun s => s.t 0 = .unk ∧ s.m 0 = some (.top 0) ∧ s.t 1 = .v false [.dat (.int .i64 (IntKind.i64.wrap (v1 + 1)))] ∧ s.t 5 = .v false [.dat (.int .i64 v5)] ∧ s.ds = [.sl (List.map M.IndexDef.en y30)] ∧ True) ?_
  rintro s32 ⟨f33, f34, f35, f36, f37, _⟩
  clear e31
  refine mrn ?_
  refine mab (man (mrn ?_))
  refine maft_i ⟨mL1, by omega, (IntKind.i64.wrap ((IntKind.i64.wrap (v1 + 1)) + 1)), (IntKind.i64.wrap (v5 + 1)), y30, ?_, ?_, ?_, ?_, ?_, h⟩
  all_goals simp +decide only [MF, F, reduceIte, Nat.reduceAdd, Bool.not_true, Bool.not_false, EN, *, -h]

set_option maxHeartbeats 4000000 in
theorem c_laws_markDatabase (p0 : M.Database) (p1 : Int) (r : (List M.Store × List M.IndexDef × Int)) (h : m_laws_markDatabase p0 p1 = some r) : MCalls Tryz.prog 42 true (M.Database.en p0) ([.str p0.Name, .int .i64 p0.Version, .sl (List.map M.Store.en r.1), .sl (List.map M.IndexDef.en r.2.1)]) p1 r.2.2 := by
  unfold m_laws_markDatabase at h
  simp only [M.Database.en]
  refine mcalls_of (N := 14) (r := 4) Tryz.func42 rfl rfl rfl (by decide +kernel) (by decide) fun cx => ?_
  refine msq (mrn ?_)
  refine man (msq ?_)
  obtain ⟨x1, h2, h⟩ := bind_some h
  refine mrn1 (c_laws_markStoreS _ _ _ h2) ?_
  refine man (msq ?_)
  refine mcu (fun s => s.t 1 = .v false [.dat (.int .i64 x1.2)] ∧ s.t 2 = .unk ∧ s.m 2 = some (.bx 0) ∧ s.ds = [.str p0.Name, .int .i64 p0.Version, .sl (List.map M.Store.en x1.1), .sl (List.map M.IndexDef.en p0.Unique)] ∧ True) ?_
  rintro s3 ⟨f4, f5, f6, f7, _⟩
  obtain ⟨x8, h9, h⟩ := bind_some h
  refine mrn1 (c_laws_markIndexDefS _ _ _ h9) ?_
  refine man (msq (mrn ?_))
  refine man (mrt ?_)
  cases h
  refine ⟨?_, ?_⟩ <;> (try simp +decide only [MF, F, ME, reduceIte, Nat.reduceAdd, EN, *])

set_option maxHeartbeats 4000000 in
theorem c_laws_markDisk (p0 : M.Disk) (p1 : Int) (r : (List M.Store × List M.IndexDef × List Int × Int)) (h : m_laws_markDisk p0 p1 = some r) : MCalls Tryz.prog 15 true (M.Disk.en p0) ([.str p0.Base.Name, .int .i64 p0.Base.Version, .sl (List.map M.Store.en r.1), .sl (List.map M.IndexDef.en r.2.1), .sl (List.map enB r.2.2.1), .int .i64 p0.Count]) p1 r.2.2.2 := by
  unfold m_laws_markDisk at h
  simp only [M.Disk.en]
  refine mcalls_of (N := 14) (r := 4) Tryz.func15 rfl rfl rfl (by decide +kernel) (by decide) fun cx => ?_
  refine msq (mrn ?_)
  refine man (msq ?_)
  obtain ⟨x1, h2, h⟩ := bind_some h
  refine mrn1 (c_laws_markDatabase _ _ _ h2) ?_
  refine man (msq ?_)
  refine mcu (fun s => s.t 1 = .v false [.dat (.int .i64 x1.2.2)] ∧ s.t 2 = .unk ∧ s.m 2 = some (.bx 0) ∧ s.ds = [.str p0.Base.Name, .int .i64 p0.Base.Version, .sl (List.map M.Store.en x1.1), .sl (List.map M.IndexDef.en x1.2.1), .sl (List.map enB p0.Log), .int .i64 p0.Count] ∧ True) ?_
  rintro s3 ⟨f4, f5, f6, f7, _⟩
  obtain ⟨x8, h9, h⟩ := bind_some h
  refine mrn1 (c_laws_markByteS _ _ _ h9) ?_
  refine man (msq (mrn ?_))
  refine man (mrt ?_)
  cases h
  refine ⟨?_, ?_⟩ <;> (try simp +decide only [MF, F, ME, reduceIte, Nat.reduceAdd, EN, *])

set_option maxHeartbeats 4000000 in
theorem c_laws_markStore (p0 : M.Store) (p1 : Int) (r : (List M.Item × Int)) (h : m_laws_markStore p0 p1 = some r) : MCalls Tryz.prog 54 true (M.Store.en p0) ([.str p0.Name, .sl (List.map M.Item.en r.1), .int .i64 p0.Auto]) p1 r.2 := by
  unfold m_laws_markStore at h
  simp only [M.Store.en]
  refine mcalls_of (N := 10) (r := 4) Tryz.func54 rfl rfl rfl (by decide +kernel) (by decide) fun cx => ?_
  refine msq (mrn ?_)
  refine man (msq ?_)
  obtain ⟨x1, h2, h⟩ := bind_some h
  refine mrn1 (c_laws_markItemS _ _ _ h2) ?_
  refine man (msq (mrn ?_))
  refine man (mrt ?_)
  cases h
  refine ⟨?_, ?_⟩ <;> (try simp +decide only [MF, F, ME, reduceIte, Nat.reduceAdd, EN, *])

set_option maxHeartbeats 4000000 in
theorem c_laws_markWriteS (p0 : List M.Write) (p1 : Int) (r : (List M.Write × Int)) (h : m_laws_markWriteS p0 p1 = some r) : MCalls Tryz.prog 128 false ([.sl (List.map M.Write.en p0)]) ([.sl (List.map M.Write.en r.1)]) p1 r.2 := by
  unfold m_laws_markWriteS at h
  refine mcalls_of (N := 67) (r := 4) Tryz.func128 rfl rfl rfl (by decide +kernel) (by decide) fun cx => ?_
  refine msq (mrn ?_)
  refine man (msq (msq (mrn ?_)))
  refine man (mbk ?_)
  refine MW_loop (fun m s => ∃ v1 : Int, ∃ v5 : Int, ∃ r99 : List M.Write, s.t 0 = .unk ∧ s.m 0 = some (.top 0) ∧ s.t 1 = .v false [.dat (.int .i64 v1)] ∧ s.t 5 = .v false [.dat (.int .i64 v5)] ∧ s.ds = [.sl (List.map M.Write.en r99)] ∧ m_laws_markWriteS_L1 m v1 v5 r99 = some r) fuel ?_ ?_
  · refine ⟨p1, 0, p0, ?_, ?_, ?_, ?_, ?_, h⟩
    all_goals simp +decide only [MF, F, reduceIte, Nat.reduceAdd, Bool.not_true, Bool.not_false, EN, *, -h]
  rintro mL1 s1 ⟨v1, v5, r99, f2, f3, f4, f5, f6, h⟩
  rcases mL1 with _ | mL1
  · exact absurd h (by simp [m_laws_markWriteS_L1])
  simp only [m_laws_markWriteS_L1] at h
  refine msq (msq (mrn ?_))
  refine man ?_
  rcases bcas (decide (v5 < (List.length r99 : Int))) with b7 | b7
  · replace h := ite_f b7 h
    refine mcf (mxt (maft_cx (maft_ix (maft_x (man (msq (mrn ?_)))))))
    refine man (mrt ?_)
    cases h
    refine ⟨?_, ?_⟩ <;> (try simp +decide only [MF, F, ME, reduceIte, Nat.reduceAdd, EN, *])
  replace h := ite_t b7 h
  refine mct (msk (man (msq (mbk (msq ?_)))))
  obtain ⟨x8, h9, h⟩ := bind_some h
  obtain ⟨q10, q11, q12⟩ := idx_some h9
  refine mrn ?_
  obtain ⟨y13, e14, h⟩ := bind_some h
  replace e14 := (Option.some.inj e14).symm
  refine man (msq ?_)
  refine mcu (fun s => s.t 0 = .unk ∧ s.m 0 = some (.top 0) ∧ s.t 1 = .v false [.dat (.int .i64 v1)] ∧ s.t 5 = .v false [.dat (.int .i64 v5)] ∧ s.ds = [.sl (List.map M.Write.en y13)] ∧ True) ?_
  rintro s15 ⟨f16, f17, f18, f19, f20, _⟩
  clear e14
  refine mrn ?_
  refine man (msq ?_)
  obtain ⟨x21, h22, h⟩ := bind_some h
  obtain ⟨q23, q24, q25⟩ := idx_some h22
  refine mrn ?_
  obtain ⟨y26, e27, h⟩ := bind_some h
  replace e27 := (Option.some.inj e27).symm
  refine man (msq ?_)
  refine mcu (fun s => s.t 0 = .unk ∧ s.m 0 = some (.top 0) ∧ s.t 1 = .v false [.dat (.int .i64 (IntKind.i64.wrap (v1 + 1)))] ∧ s.t 5 = .v false [.dat (.int .i64 v5)] ∧ s.ds = [.sl (List.map M.Write.en y26)] ∧ True) ?_
  rintro s28 ⟨f29, f30, f31, f32, f33, _⟩
  clear e27
  refine mrn ?_
  refine man (msq ?_)
  obtain ⟨x34, h35, h⟩ := bind_some h
  obtain ⟨q36, q37, q38⟩ := idx_some h35
  refine mrn ?_
  obtain ⟨y39, e40, h⟩ := bind_some h
  replace e40 := (Option.some.inj e40).symm
  refine man (msq ?_)
  refine mcu (fun s => s.t 0 = .unk ∧ s.m 0 = some (.top 0) ∧ s.t 1 = .v false [.dat (.int .i64 (IntKind.i64.wrap ((IntKind.i64.wrap (v1 + 1)) + 1)))] ∧ s.t 5 = .v false [.dat (.int .i64 v5)] ∧ s.ds = [.sl (List.map M.Write.en y39)] ∧ True) ?_
  rintro s41 ⟨f42, f43, f44, f45, f46, _⟩
  clear e40
  refine mrn ?_
  refine man (msq ?_)
  obtain ⟨x47, h48, h⟩ := bind_some h
  obtain ⟨q49, q50, q51⟩ := idx_some h48
  refine mrn ?_
  obtain ⟨y52, e53, h⟩ := bind_some h
  replace e53 := (Option.some.inj e53).symm
  refine man (msq ?_)
  refine mcu (fun s => s.t 0 = .unk ∧ s.m 0 = some (.top 0) ∧ s.t 1 = .v false [.dat (.int .i64 (IntKind.i64.wrap ((IntKind.i64.wrap ((IntKind.i64.wrap (v1 + 1)) + 1)) + 1)))] ∧ s.t 5 = .v false [.dat (.int .i64 v5)] ∧ s.ds = [.sl (List.map M.Write.en y52)] ∧ True) ?_
  rintro s54 ⟨f55, f56, f57, f58, f59, _⟩
  clear e53
  refine mrn ?_
  refine man (msq ?_)
  obtain ⟨x60, h61, h⟩ := bind_some h
  obtain ⟨x62, h63, h⟩ := bind_some h
  obtain ⟨q64, q65, q66⟩ := idx_some h63
  refine mrn1 (c113 _ _ h61) ?_
  obtain ⟨y67, e68, h⟩ := bind_some h
  replace e68 := (Option.some.inj e68).symm
  refine man (msq ?_)
  refine mcu (fun s => s.t 0 = .unk ∧ s.m 0 = some (.top 0) ∧ s.t 1 = .v false [.dat (.int .i64 (IntKind.i64.wrap ((IntKind.i64.wrap ((IntKind.i64.wrap ((IntKind.i64.wrap (v1 + 1)) + 1)) + 1)) + 1)))] ∧ s.t 5 = .v false [.dat (.int .i64 v5)] ∧ s.ds = [.sl (List.map M.Write.en y67)] ∧ True) ?_
  rintro s69 ⟨f70, f71, f72, f73, f74, _⟩
  clear e68
  refine mrn ?_
  refine man (msq ?_)
  obtain ⟨x75, h76, h⟩ := bind_some h
  obtain ⟨x77, h78, h⟩ := bind_some h
  obtain ⟨q79, q80, q81⟩ := idx_some h78
  refine mrn1 (c113 _ _ h76) ?_
  obtain ⟨y82, e83, h⟩ := bind_some h
  replace e83 := (Option.some.inj e83).symm
  refine man (msq ?_)
  refine mcu (fun s => s.t 0 = .unk ∧ s.m 0 = some (.top 0) ∧ s.t 1 = .v false [.dat (.int .i64 (IntKind.i64.wrap ((IntKind.i64.wrap ((IntKind.i64.wrap ((IntKind.i64.wrap ((IntKind.i64.wrap (v1 + 1)) + 1)) + 1)) + 1)) + 1)))] ∧ s.t 5 = .v false [.dat (.int .i64 v5)] ∧ s.ds = [.sl (List.map M.Write.en y82)] ∧ True) ?_
  rintro s84 ⟨f85, f86, f87, f88, f89, _⟩
  clear e83
  refine mrn ?_
  refine man (msq ?_)
  obtain ⟨x90, h91, h⟩ := bind_some h
  obtain ⟨q92, q93, q94⟩ := idx_some h91
  refine mrn ?_
  obtain ⟨y95, e96, h⟩ := bind_some h
  replace e96 := (Option.some.inj e96).symm
  refine man ?_
  refine mcu (fun s => s.t 0 = .unk ∧ s.m 0 = some (.top 0) ∧ s.t 1 = .v false [.dat (.int .i64 (IntKind.i64.wrap ((IntKind.i64.wrap ((IntKind.i64.wrap ((IntKind.i64.wrap ((IntKind.i64.wrap ((IntKind.i64.wrap (v1 + 1)) + 1)) + 1)) + 1)) + 1)) + 1)))] ∧ s.t 5 = .v false [.dat (.int .i64 v5)] ∧ s.ds = [.sl (List.map M.Write.en y95)] ∧ True) ?_
  rintro s97 ⟨f98, f99, f100, f101, f102, _⟩
  clear e96
  refine mrn ?_
  refine mab (man (mrn ?_))
  refine maft_i ⟨mL1, by omega, (IntKind.i64.wrap ((IntKind.i64.wrap ((IntKind.i64.wrap ((IntKind.i64.wrap ((IntKind.i64.wrap ((IntKind.i64.wrap ((IntKind.i64.wrap (v1 + 1)) + 1)) + 1)) + 1)) + 1)) + 1)) + 1)), (IntKind.i64.wrap (v5 + 1)), y95, ?_, ?_, ?_, ?_, ?_, h⟩
  all_goals simp +decide only [MF, F, reduceIte, Nat.reduceAdd, Bool.not_true, Bool.not_false, EN, *, -h]

set_option maxHeartbeats 4000000 in
theorem c_laws_markOutbox (p0 : M.Outbox) (p1 : Int) (r : (List M.Write × Int)) (h : m_laws_markOutbox p0 p1 = some r) : MCalls Tryz.prog 87 true (M.Outbox.en p0) ([.int .i64 p0.Device, .int .i64 p0.Next, .sl (List.map M.Write.en r.1)]) p1 r.2 := by
  unfold m_laws_markOutbox at h
  simp only [M.Outbox.en]
  refine mcalls_of (N := 10) (r := 4) Tryz.func87 rfl rfl rfl (by decide +kernel) (by decide) fun cx => ?_
  refine msq (mrn ?_)
  refine man (msq ?_)
  obtain ⟨x1, h2, h⟩ := bind_some h
  refine mrn1 (c_laws_markWriteS _ _ _ h2) ?_
  refine man (msq (mrn ?_))
  refine man (mrt ?_)
  cases h
  refine ⟨?_, ?_⟩ <;> (try simp +decide only [MF, F, ME, reduceIte, Nat.reduceAdd, EN, *])

set_option maxHeartbeats 4000000 in
theorem c_laws_markSync (p0 : M.Sync) (p1 : Int) (r : (List M.Write × Int)) (h : m_laws_markSync p0 p1 = some r) : MCalls Tryz.prog 55 true (M.Sync.en p0) ([.int .i64 p0.Outbox.Device, .int .i64 p0.Outbox.Next, .sl (List.map M.Write.en r.1), .int .i64 p0.Tries, .int .i64 p0.WaitUntil]) p1 r.2 := by
  unfold m_laws_markSync at h
  simp only [M.Sync.en]
  refine mcalls_of (N := 10) (r := 4) Tryz.func55 rfl rfl rfl (by decide +kernel) (by decide) fun cx => ?_
  refine msq (mrn ?_)
  refine man (msq ?_)
  obtain ⟨x1, h2, h⟩ := bind_some h
  refine mrn1 (c_laws_markOutbox _ _ _ h2) ?_
  refine man (msq (mrn ?_))
  refine man (mrt ?_)
  cases h
  refine ⟨?_, ?_⟩ <;> (try simp +decide only [MF, F, ME, reduceIte, Nat.reduceAdd, EN, *])

set_option maxHeartbeats 4000000 in
theorem c_laws_markReplica (p0 : M.Replica) (p1 : Int) (r : (List M.Item × List M.Write × Int)) (h : m_laws_markReplica p0 p1 = some r) : MCalls Tryz.prog 22 true (M.Replica.en p0) ([.str p0.Base.Name, .sl (List.map M.Item.en r.1), .int .i64 p0.Base.Auto, .int .i64 p0.Seen, .int .i64 p0.Sync.Outbox.Device, .int .i64 p0.Sync.Outbox.Next, .sl (List.map M.Write.en r.2.1), .int .i64 p0.Sync.Tries, .int .i64 p0.Sync.WaitUntil]) p1 r.2.2 := by
  unfold m_laws_markReplica at h
  simp only [M.Replica.en]
  refine mcalls_of (N := 14) (r := 4) Tryz.func22 rfl rfl rfl (by decide +kernel) (by decide) fun cx => ?_
  refine msq (mrn ?_)
  refine man (msq ?_)
  obtain ⟨x1, h2, h⟩ := bind_some h
  refine mrn1 (c_laws_markStore _ _ _ h2) ?_
  refine man (msq ?_)
  refine mcu (fun s => s.t 1 = .v false [.dat (.int .i64 x1.2)] ∧ s.t 2 = .unk ∧ s.m 2 = some (.bx 0) ∧ s.ds = [.str p0.Base.Name, .sl (List.map M.Item.en x1.1), .int .i64 p0.Base.Auto, .int .i64 p0.Seen, .int .i64 p0.Sync.Outbox.Device, .int .i64 p0.Sync.Outbox.Next, .sl (List.map M.Write.en p0.Sync.Outbox.Writes), .int .i64 p0.Sync.Tries, .int .i64 p0.Sync.WaitUntil] ∧ True) ?_
  rintro s3 ⟨f4, f5, f6, f7, _⟩
  obtain ⟨x8, h9, h⟩ := bind_some h
  refine mrn1 (c_laws_markSync _ _ _ h9) ?_
  refine man (msq (mrn ?_))
  refine man (mrt ?_)
  cases h
  refine ⟨?_, ?_⟩ <;> (try simp +decide only [MF, F, ME, reduceIte, Nat.reduceAdd, EN, *])

set_option maxHeartbeats 4000000 in
theorem c_laws_markBucket (p0 : M.Bucket) (p1 : Int) (r : (List M.Cache × List M.Store × List M.IndexDef × List Int × List M.Item × List M.Write × Int)) (h : m_laws_markBucket p0 p1 = some r) : MCalls Tryz.prog 14 true (M.Bucket.en p0) ([.str p0.Site, .str p0.Top, .str p0.Registration.Site, .int .i64 p0.Registration.Installing, .int .i64 p0.Registration.Waiting, .int .i64 p0.Registration.Active, .sl (List.map M.Cache.en r.1), .str p0.Disk.Base.Name, .int .i64 p0.Disk.Base.Version, .sl (List.map M.Store.en r.2.1), .sl (List.map M.IndexDef.en r.2.2.1), .sl (List.map enB r.2.2.2.1), .int .i64 p0.Disk.Count, .str p0.Replica.Base.Name, .sl (List.map M.Item.en r.2.2.2.2.1), .int .i64 p0.Replica.Base.Auto, .int .i64 p0.Replica.Seen, .int .i64 p0.Replica.Sync.Outbox.Device, .int .i64 p0.Replica.Sync.Outbox.Next, .sl (List.map M.Write.en r.2.2.2.2.2.1), .int .i64 p0.Replica.Sync.Tries, .int .i64 p0.Replica.Sync.WaitUntil, .int .i64 p0.LastUsed, .bool p0.Persistent]) p1 r.2.2.2.2.2.2 := by
  unfold m_laws_markBucket at h
  simp only [M.Bucket.en]
  refine mcalls_of (N := 18) (r := 4) Tryz.func14 rfl rfl rfl (by decide +kernel) (by decide) fun cx => ?_
  refine msq (mrn ?_)
  refine man (msq ?_)
  obtain ⟨x1, h2, h⟩ := bind_some h
  refine mrn1 (c_laws_markCacheSet _ _ _ h2) ?_
  refine man (msq ?_)
  refine mcu (fun s => s.t 1 = .v false [.dat (.int .i64 x1.2)] ∧ s.t 2 = .unk ∧ s.m 2 = some (.bx 0) ∧ s.ds = [.str p0.Site, .str p0.Top, .str p0.Registration.Site, .int .i64 p0.Registration.Installing, .int .i64 p0.Registration.Waiting, .int .i64 p0.Registration.Active, .sl (List.map M.Cache.en x1.1), .str p0.Disk.Base.Name, .int .i64 p0.Disk.Base.Version, .sl (List.map M.Store.en p0.Disk.Base.Stores), .sl (List.map M.IndexDef.en p0.Disk.Base.Unique), .sl (List.map enB p0.Disk.Log), .int .i64 p0.Disk.Count, .str p0.Replica.Base.Name, .sl (List.map M.Item.en p0.Replica.Base.Items), .int .i64 p0.Replica.Base.Auto, .int .i64 p0.Replica.Seen, .int .i64 p0.Replica.Sync.Outbox.Device, .int .i64 p0.Replica.Sync.Outbox.Next, .sl (List.map M.Write.en p0.Replica.Sync.Outbox.Writes), .int .i64 p0.Replica.Sync.Tries, .int .i64 p0.Replica.Sync.WaitUntil, .int .i64 p0.LastUsed, .bool p0.Persistent] ∧ True) ?_
  rintro s3 ⟨f4, f5, f6, f7, _⟩
  obtain ⟨x8, h9, h⟩ := bind_some h
  refine mrn1 (c_laws_markDisk _ _ _ h9) ?_
  refine man (msq ?_)
  refine mcu (fun s => s.t 1 = .v false [.dat (.int .i64 x8.2.2.2)] ∧ s.t 2 = .unk ∧ s.m 2 = some (.bx 0) ∧ s.ds = [.str p0.Site, .str p0.Top, .str p0.Registration.Site, .int .i64 p0.Registration.Installing, .int .i64 p0.Registration.Waiting, .int .i64 p0.Registration.Active, .sl (List.map M.Cache.en x1.1), .str p0.Disk.Base.Name, .int .i64 p0.Disk.Base.Version, .sl (List.map M.Store.en x8.1), .sl (List.map M.IndexDef.en x8.2.1), .sl (List.map enB x8.2.2.1), .int .i64 p0.Disk.Count, .str p0.Replica.Base.Name, .sl (List.map M.Item.en p0.Replica.Base.Items), .int .i64 p0.Replica.Base.Auto, .int .i64 p0.Replica.Seen, .int .i64 p0.Replica.Sync.Outbox.Device, .int .i64 p0.Replica.Sync.Outbox.Next, .sl (List.map M.Write.en p0.Replica.Sync.Outbox.Writes), .int .i64 p0.Replica.Sync.Tries, .int .i64 p0.Replica.Sync.WaitUntil, .int .i64 p0.LastUsed, .bool p0.Persistent] ∧ True) ?_
  rintro s10 ⟨f11, f12, f13, f14, _⟩
  obtain ⟨x15, h16, h⟩ := bind_some h
  refine mrn1 (c_laws_markReplica _ _ _ h16) ?_
  refine man (msq (mrn ?_))
  refine man (mrt ?_)
  cases h
  refine ⟨?_, ?_⟩ <;> (try simp +decide only [MF, F, ME, reduceIte, Nat.reduceAdd, EN, *])

end Go.Proofs.YtmpbibngijnfeaaGreat.gen
