/-
  Helper text: walks: each function's contract out of its model. No conditions beyond those of each contract.
-/
import Derived.Test.YtmpbibngijnfeaaGreatUTi
import Derived.Test.YtmpbibngijnfeaaGreatUWimpl0
namespace Go.Proofs.YtmpbibngijnfeaaGreat.gen
open Go Go.Sh
set_option linter.unusedVariables false
set_option linter.unusedSimpArgs false
set_option maxRecDepth 20000
set_option maxHeartbeats 4000000
theorem c105 (p0 r) (h : m_impl_IsDatabase p0 = some r) : Sc 105 [aX (M.Database.en p0)] [rB r] := by
  unfold m_impl_IsDatabase at h
  simp only [EN]
  refine sgn 103 [.tmp 2] Tryz.func105 fun base wd => ?_
  refine sq (rn ?_)
  refine an (sq (sq ?_))
  obtain ⟨x1, h2, h⟩ := bind_some h
  rcases bcase (!x1) with b3 | b3
  · replace h := ite_t b3 h
    refine rn1 (c102 _ _ h2) ?_
    refine an (ct (sq (rn ?_)))
    refine an (rt ?_)
    cases h
    simp [Ret, TB, EN, *]
  replace h := ite_f b3 h
  obtain ⟨x4, h5, h⟩ := bind_some h
  rcases bcase (!x4) with b6 | b6
  · replace h := ite_t b6 h
    refine rn2 (c102 _ _ h2) (c107 _ _ _ _ h5) ?_
    refine an (ct (sq (rn ?_)))
    refine an (rt ?_)
    cases h
    simp [Ret, TB, EN, *]
  replace h := ite_f b6 h
  rcases bcase (decide ((List.length p0.Stores : Int) > 4)) with b7 | b7
  · replace h := ite_t b7 h
    refine rn2 (c102 _ _ h2) (c107 _ _ _ _ h5) ?_
    refine an (ct (sq (rn ?_)))
    refine an (rt ?_)
    cases h
    simp [Ret, TB, EN, *]
  replace h := ite_f b7 h
  refine rn2 (c102 _ _ h2) (c107 _ _ _ _ h5) ?_
  refine an ?_
  rcases bcase (decide ((List.length p0.Unique : Int) > 4)) with b8 | b8
  · replace h := ite_t b8 h
    refine ct (sq (rn ?_))
    refine an (rt ?_)
    cases h
    simp [Ret, TB, EN, *]
  replace h := ite_f b8 h
  refine cf (sk (an (sq (sq (rn ?_)))))
  refine an (bk ?_)
  refine SW_loop (fun m s => ∃ v36 : Int, s.t 1 = vP 1 1 0 ∧ s.t 34 = vL M.Store.en p0.Stores ∧ s.t 35 = vI (List.length p0.Stores : Int) ∧ s.t 36 = vI v36 ∧ s.h 1 = (1, oX 55 (M.Database.en p0)) ∧ m_impl_IsDatabase_L1 p0 m v36 = some r) fuel ?_ ?_
  · refine ⟨0, ?_, ?_, ?_, ?_, ?_, h⟩
    all_goals simp +decide only [F, reduceIte, Nat.reduceAdd, Bool.not_true, Bool.not_false, EN, *, -h]
  rintro mL1 s9 ⟨v36, f10, f11, f12, f13, f14, h⟩
  rcases mL1 with _ | mL1
  · exact absurd h (by simp [m_impl_IsDatabase_L1])
  simp only [m_impl_IsDatabase_L1] at h
  refine sq (rn ?_)
  refine an (sq ?_)
  rcases bcase (decide (v36 < (List.length p0.Stores : Int))) with b15 | b15
  · replace h := ite_t b15 h
    refine ct (sk (an (sq (bk (sq ?_)))))
    obtain ⟨x16, h17, h⟩ := bind_some h
    obtain ⟨q18, q19, q20⟩ := idx_some h17
    refine rn ?_
    refine an (sq ?_)
    obtain ⟨x21, h22, h⟩ := bind_some h
    rcases bcase (!x21) with b23 | b23
    · replace h := ite_t b23 h
      refine rd1 mixed (c144 _ _ h22) ?_
      refine an (ct (sq (rn ?_)))
      refine an (rt ?_)
      cases h
      simp [Ret, TB, EN, *]
    replace h := ite_f b23 h
    rcases bcas (decide (v36 > 0)) with b24 | b24
    · replace h := ite_f b24 h
      refine rd1 mixed (c144 _ _ h22) ?_
      refine an (cf (sk (ab (an (rn ?_)))))
      refine aft_i ⟨mL1, by omega, (IntKind.i64.wrap (v36 + 1)), ?_, ?_, ?_, ?_, ?_, h⟩
      all_goals simp +decide only [F, reduceIte, Nat.reduceAdd, Bool.not_true, Bool.not_false, EN, *, -h]
    replace h := ite_t b24 h
    obtain ⟨x25, h26, h⟩ := bind_some h
    obtain ⟨q27, q28, q29⟩ := idx_some h26
    refine rd1 mixed (c144 _ _ h22) ?_
    refine an ?_
    rcases bcase (Op.bytesLess x16.Name.toList x25.Name.toList || x16.Name.toList == x25.Name.toList) with b30 | b30
    · replace h := ite_t b30 h
      refine ct (sq (rn ?_))
      refine an (rt ?_)
      cases h
      simp [Ret, TB, EN, *]
    replace h := ite_f b30 h
    refine cf (sk (ab (an (rn ?_))))
    refine aft_i ⟨mL1, by omega, (IntKind.i64.wrap (v36 + 1)), ?_, ?_, ?_, ?_, ?_, h⟩
    all_goals simp +decide only [F, reduceIte, Nat.reduceAdd, Bool.not_true, Bool.not_false, EN, *, -h]
  replace h := ite_f b15 h
  refine cf (xt (aft_cx (aft_ix (aft_x (an (sq (sq (rn ?_))))))))
  refine an (bk ?_)
  refine SW_loop (fun m s => ∃ v64 : Int, s.t 1 = vP 1 1 0 ∧ s.t 62 = vL M.IndexDef.en p0.Unique ∧ s.t 63 = vI (List.length p0.Unique : Int) ∧ s.t 64 = vI v64 ∧ s.h 1 = (1, oX 55 (M.Database.en p0)) ∧ m_impl_IsDatabase_L2 p0 m v64 = some r) fuel ?_ ?_
  · refine ⟨0, ?_, ?_, ?_, ?_, ?_, h⟩
    all_goals simp +decide only [F, reduceIte, Nat.reduceAdd, Bool.not_true, Bool.not_false, EN, *, -h]
  rintro mL2 s31 ⟨v64, f32, f33, f34, f35, f36, h⟩
  rcases mL2 with _ | mL2
  · exact absurd h (by simp [m_impl_IsDatabase_L2])
  simp only [m_impl_IsDatabase_L2] at h
  refine sq (rn ?_)
  refine an (sq ?_)
  rcases bcas (decide (v64 < (List.length p0.Unique : Int))) with b37 | b37
  · replace h := ite_f b37 h
    refine cf (xt (aft_cx (aft_ix (aft_x (an (sq (rn ?_)))))))
    refine an (rt ?_)
    cases h
    simp [Ret, TB, EN, *]
  replace h := ite_t b37 h
  refine ct (sk (an (sq (bk (sq ?_)))))
  obtain ⟨x38, h39, h⟩ := bind_some h
  obtain ⟨q40, q41, q42⟩ := idx_some h39
  refine rn ?_
  refine an (sq ?_)
  obtain ⟨x43, h44, h⟩ := bind_some h
  refine rn1 (c145 _ _ _ h44) ?_
  refine an (sq (sq ?_))
  rcases bcase (decide (x43 < 0)) with b45 | b45
  · replace h := ite_t b45 h
    refine rd mixed ?_
    refine an (ct (sq (rn ?_)))
    refine an (rt ?_)
    cases h
    simp [Ret, TB, EN, *]
  replace h := ite_f b45 h
  obtain ⟨x46, h47, h⟩ := bind_some h
  rcases bcase (!x46) with b48 | b48
  · replace h := ite_t b48 h
    refine rd1 mixed (c102 _ _ h47) ?_
    refine an (ct (sq (rn ?_)))
    refine an (rt ?_)
    cases h
    simp [Ret, TB, EN, *]
  replace h := ite_f b48 h
  obtain ⟨x49, h50, h⟩ := bind_some h
  obtain ⟨x51, h52, h⟩ := bind_some h
  apply SW_runD mixed
  · simp +decide only [E, reduceIte, Nat.reduceAdd, Nat.reduceMul, Bool.not_true, Bool.not_false, ← List.map_take, ← List.map_drop, L, ti9, ti53, ti55, ti159, M.IndexDef.en, EN, b3, b6, b7, b8, b15, f32, f33, f34, f35, f36, b37, q40, q41, q42, b45, b48]
    refine ⟨_, c102 _ _ h47, ?_⟩
    try simp +decide only [E, reduceIte, Nat.reduceAdd, Nat.reduceMul, Bool.not_true, Bool.not_false, ← List.map_take, ← List.map_drop, L, ti9, ti53, ti55, ti159, M.IndexDef.en, EN, b3, b6, b7, b8, b15, f32, f33, f34, f35, f36, b37, q40, q41, q42, b45, b48]
    refine ⟨by first | exact slcHi_some (f := M.IndexDef.en) (n := 2) (fun _ => rfl) h50 | exact (slcHi_some (f := M.IndexDef.en) (n := 2) (fun _ => rfl) h50).2 | exact (slcHi_some (f := M.IndexDef.en) (n := 2) (fun _ => rfl) h50).2.2, ?_⟩
    try simp +decide only [E, reduceIte, Nat.reduceAdd, Nat.reduceMul, Bool.not_true, Bool.not_false, ← List.map_take, ← List.map_drop, L, ti9, ti53, ti55, ti159, M.IndexDef.en, EN, b3, b6, b7, b8, b15, f32, f33, f34, f35, f36, b37, q40, q41, q42, b45, b48]
    refine ⟨_, c146 _ _ _ h52, ?_⟩
    try simp +decide only [E, reduceIte, Nat.reduceAdd, Nat.reduceMul, Bool.not_true, Bool.not_false, ← List.map_take, ← List.map_drop, L, ti9, ti53, ti55, ti159, M.IndexDef.en, EN, b3, b6, b7, b8, b15, f32, f33, f34, f35, f36, b37, q40, q41, q42, b45, b48]
    exact ⟨.mk (by decide +kernel), Is.mk _⟩
  refine an ?_
  rcases bcase x51 with b53 | b53
  · replace h := ite_t b53 h
    refine ct (sq (rn ?_))
    refine an (rt ?_)
    cases h
    simp [Ret, TB, EN, *]
  replace h := ite_f b53 h
  refine cf (sk (an (sq ?_)))
  obtain ⟨x54, h55, h⟩ := bind_some h
  obtain ⟨q56, q57, q58⟩ := idx_some h55
  obtain ⟨x59, h60, h⟩ := bind_some h
  refine rd1 mixed (c147 _ _ _ h60) ?_
  refine an (sq (rn ?_))
  refine an ?_
  rcases bcase x59.2.2 with b61 | b61
  · replace h := ite_t b61 h
    refine ct (sq (rn ?_))
    refine an (rt ?_)
    cases h
    simp [Ret, TB, EN, *]
  replace h := ite_f b61 h
  refine cf (sk (ab (an (rn ?_))))
  refine aft_i ⟨mL2, by omega, (IntKind.i64.wrap (v64 + 1)), ?_, ?_, ?_, ?_, ?_, h⟩
  all_goals simp +decide only [F, reduceIte, Nat.reduceAdd, Bool.not_true, Bool.not_false, EN, *, -h]
instance : HasC 105 (type_of% @c105) := ⟨@c105⟩

theorem c193 (p0 r) (h : m_impl_IsQueuedWrite p0 = some r) : Sc 193 [aX (M.Write.en p0)] [rB r] := by
 unfold m_impl_IsQueuedWrite at h
 exact sgo 26 [.tmp 2] Tryz.func193
instance : HasC 193 (type_of% @c193) := ⟨@c193⟩

theorem c148 (p0 r) (h : m_impl_IsOutbox p0 = some r) : Sc 148 [aX (M.Outbox.en p0)] [rB r] := by
 have i1 := inv fun m s => ∃ v12 : Int, (s.t 1 = vP 1 1 0 ∧ s.t 3 = vI (List.length p0.Writes : Int) ∧ s.t 10 = vL M.Write.en p0.Writes ∧ s.t 11 = vI (List.length p0.Writes : Int) ∧ s.t 12 = vI v12 ∧ s.h 1 = (1, oX 63 (M.Outbox.en p0))) ∧ m_impl_IsOutbox_L1 p0 m v12 = some r
 have e1 := @m_impl_IsOutbox_L1.eq_2
 unfold m_impl_IsOutbox at h
 exact sgo 51 [.tmp 2] Tryz.func148
instance : HasC 148 (type_of% @c148) := ⟨@c148⟩

theorem c106 (p0 r) (h : m_impl_IsReplica p0 = some r) : Sc 106 [aX (M.Replica.en p0)] [rB r] := by
 unfold m_impl_IsReplica at h
 exact sgo 23 [.tmp 2] Tryz.func106
instance : HasC 106 (type_of% @c106) := ⟨@c106⟩

theorem c194 (p0 p1 r) (h : m_impl_StoredSize p0 p1 = some r) : Sc 194 [aX (M.Response.en p0), aB p1] [rI r] := by
 unfold m_impl_StoredSize at h
 exact sgo 10 [.tmp 4] Tryz.func194
instance : HasC 194 (type_of% @c194) := ⟨@c194⟩

theorem c149 (p0 r) (h : m_impl_SizeCaches p0 = some r) : Sc 149 [aX (M.CacheSet.en p0)] [rI r] := by
 have i1 := inv fun m s => ∃ v3 : Int, ∃ v11 : Int, (s.t 3 = vI v3 ∧ s.t 9 = vL M.Cache.en p0.Caches ∧ s.t 10 = vI (List.length p0.Caches : Int) ∧ s.t 11 = vI v11) ∧ m_impl_SizeCaches_L1 p0 m v3 v11 = some r
 have e1 := @m_impl_SizeCaches_L1.eq_2
 have i2 := fun (v11 : Int) (x7 : M.Cache) (k13 : Int → Int → Option Int) => inv fun m s => ∃ v3_L2 : Int, ∃ v18_L2 : Int, (s.t 3 = vI v3_L2 ∧ s.t 9 = vL M.Cache.en p0.Caches ∧ s.t 10 = vI (List.length p0.Caches : Int) ∧ s.t 11 = vI v11 ∧ s.t 16 = vL M.Cached.en x7.Entries ∧ s.t 17 = vI (List.length x7.Entries : Int) ∧ s.t 18 = vI v18_L2) ∧ m_impl_SizeCaches_L2 x7 k13 m v3_L2 v18_L2 = some r
 have e2 := @m_impl_SizeCaches_L2.eq_2
 unfold m_impl_SizeCaches at h
 exact sgo 34 [.tmp 2] Tryz.func149
instance : HasC 149 (type_of% @c149) := ⟨@c149⟩

theorem c196 (p0 r) (h : m_impl_EncodeKey p0 = some r) : Sc 196 [aX (M.Key.en p0)] [rW 5 1 enB r] := by
  unfold m_impl_EncodeKey at h
  simp only [EN]
  refine sgn 34 [.tmp 2] Tryz.func196 fun base wd => ?_
  refine sq (rn ?_)
  refine an (sq (sq ?_))
  obtain ⟨x1, h2, h⟩ := bind_some h
  refine rn1 (c185 _ _ h2) ?_
  refine an ?_
  rcases bcase (!x1) with b3 | b3
  · replace h := ite_t b3 h
    refine ct (sq (rn ?_))
    refine an (rt ?_)
    cases h
    simp [Ret, TB, EN, *]
  replace h := ite_f b3 h
  refine cf (sk (an (sq (rn ?_))))
  refine an (sq (sq ?_))
  refine cu (fun s => s.t 1 = vP 1 1 0 ∧ s.t 3 = vR 100012 1 ∧ s.h 1 = (1, oX 172 (M.Key.en p0)) ∧ s.h 100012 = (1, oW 5 1 enB ([(IntKind.u8.wrap p0.Kind)])) ∧ True) ?_
  rintro s4 ⟨f5, f6, f7, f8, _⟩
  refine rn ?_
  refine an ?_
  rcases bcas (p0.Kind != 2) with b9 | b9
  · replace h := ite_f b9 h
    refine cf (sk (an (sq ?_)))
    obtain ⟨x28, h29, h⟩ := bind_some h
    refine rn1 h29 ?_
    refine an (rt ?_)
    cases h
    simp [Ret, TB, EN, *]
  replace h := ite_t b9 h
  refine ct (sq (rn ?_))
  refine an (bk ?_)
  refine SW_loop (fun m s => ∃ v4 : Int, ∃ r12 : List Int, ∃ u12 : Nat, s.t 1 = vP 1 1 0 ∧ s.t 3 = vR 100012 u12 ∧ s.t 4 = vI v4 ∧ s.h 1 = (1, oX 172 (M.Key.en p0)) ∧ s.h 100012 = (u12, oW 5 1 enB r12) ∧ m_impl_EncodeKey_L1 p0 m v4 r12 = some r) fuel ?_ ?_
  · refine ⟨5, ([(IntKind.u8.wrap p0.Kind)]), 1, ?_, ?_, ?_, ?_, ?_, h⟩
    all_goals simp +decide only [F, reduceIte, Nat.reduceAdd, Bool.not_true, Bool.not_false, EN, *, -h]
  rintro mL1 s10 ⟨v4, r12, u12, f11, f12, f13, f14, f15, h⟩
  rcases mL1 with _ | mL1
  · exact absurd h (by simp [m_impl_EncodeKey_L1])
  simp only [m_impl_EncodeKey_L1] at h
  refine sq (sq (rn ?_))
  refine an ?_
  rcases bcas (decide (v4 ≥ 0)) with b16 | b16
  · replace h := ite_f b16 h
    refine cf (xt (aft_cx (aft_ix (aft_x (an (sq ?_))))))
    obtain ⟨x26, h27, h⟩ := bind_some h
    refine rn1 h27 ?_
    refine an (rt ?_)
    cases h
    simp [Ret, TB, EN, *]
  replace h := ite_t b16 h
  refine ct (sk (an (sq (bk ?_))))
  rcases bcas (decide (0 ≤ (IntKind.i64.wrap (8 * v4)))) with b17 | b17
  · replace h := ite_f b17 h
    cases h
  replace h := ite_t b17 h
  obtain ⟨x18, h19, h⟩ := bind_some h
  apply SW_run
  · simp +decide only [E, reduceIte, Nat.reduceAdd, Nat.reduceMul, Bool.not_true, Bool.not_false, shr_ok, L, ti3, ti5, ti31, ti172, enB, EN, b3, b9, f11, f12, f13, f14, f15, b16, b17]
    refine ⟨by (have hb := app_some h19); simp [enB, List.length_append, strBytes_len] at hb ⊢ <;> omega, ?_⟩
    try simp +decide only [E, reduceIte, Nat.reduceAdd, Nat.reduceMul, Bool.not_true, Bool.not_false, shr_ok, L, ti3, ti5, ti31, ti172, enB, EN, b3, b9, f11, f12, f13, f14, f15, b16, b17]
    exact Is.mk _
  refine ab (an ?_)
  refine cu (fun s => s.t 1 = vP 1 1 0 ∧ s.t 3 = vR 100012 (u12 + 1) ∧ s.t 4 = vI v4 ∧ s.h 1 = (1, oX 172 (M.Key.en p0)) ∧ s.h 100012 = ((u12 + 1), oW 5 1 enB (r12 ++ [(IntKind.u8.wrap (Int.fdiv (IntKind.i64.wrap (p0.N + 1000000000000)) (2 ^ (min (IntKind.i64.wrap (8 * v4)).toNat IntKind.i64.bits))))])) ∧ True) ?_
  rintro s20 ⟨f21, f22, f23, f24, f25, _⟩
  refine rn ?_
  refine aft_i ⟨mL1, by omega, (IntKind.i64.wrap (v4 - 1)), (r12 ++ [(IntKind.u8.wrap (Int.fdiv (IntKind.i64.wrap (p0.N + 1000000000000)) (2 ^ (min (IntKind.i64.wrap (8 * v4)).toNat IntKind.i64.bits))))]), (u12 + 1), ?_, ?_, ?_, ?_, ?_, h⟩
  all_goals simp +decide only [F, reduceIte, Nat.reduceAdd, Bool.not_true, Bool.not_false, EN, *, -h]
instance : HasC 196 (type_of% @c196) := ⟨@c196⟩

theorem c154 (p0 r) (h : m_impl_copyBytes p0 = some r) : Sc 154 [aL enB p0] [rW 5 1 enB r] := by
 unfold m_impl_copyBytes at h
 exact sgo 6 [.tmp 2] Tryz.func154
instance : HasC 154 (type_of% @c154) := ⟨@c154⟩

theorem c217 (p0 p1 r) (h : m_impl_AppendUvarint p0 p1 = some r) : Sc 217 [aL enB p0, aI p1] [rW 5 1 enB r] := by
 have i1 := inv fun m s => ∃ v1 : Int, ∃ r7 : List Int, ∃ u7 : Nat, (s.t 1 = vI v1 ∧ s.t 5 = vR 100007 u7 ∧ s.h 100007 = (u7, oW 5 1 enB r7)) ∧ m_impl_AppendUvarint_L1 m v1 r7 = some r
 have e1 := @m_impl_AppendUvarint_L1.eq_2
 unfold m_impl_AppendUvarint at h
 exact sgo 28 [.tmp 4] Tryz.func217
instance : HasC 217 (type_of% @c217) := ⟨@c217⟩

theorem c218 (p0 p1 r) (h : m_impl_AppendBytes p0 p1 = some r) : Sc 218 [aL enB p0, aL enB p1] [rW 5 1 enB r] := by
 unfold m_impl_AppendBytes at h
 exact sgo 11 [.tmp 4] Tryz.func218
instance : HasC 218 (type_of% @c218) := ⟨@c218⟩

theorem c197 (p0 r) (h : m_impl_EncodeRecord p0 = some r) : Sc 197 [aX (M.Record.en p0)] [rW 5 1 enB r] := by
 have i1 := invM [.t 3 7050000 5 1] fun m s => ∃ v17 : Int, ∃ r50000 : List Int, ∃ u50000 : Nat, (s.t 3 = vR 7050000 u50000 ∧ s.t 15 = vL M.Field.en p0.Fields ∧ s.t 16 = vI (List.length p0.Fields : Int) ∧ s.t 17 = vI v17 ∧ s.h 7050000 = (u50000, oW 5 1 enB r50000)) ∧ m_impl_EncodeRecord_L1 p0 m v17 r50000 = some r
 have e1 := @m_impl_EncodeRecord_L1.eq_2
 unfold m_impl_EncodeRecord at h
 exact sgo 31 [.tmp 2] Tryz.func197
instance : HasC 197 (type_of% @c197) := ⟨@c197⟩

theorem c151 (p0 r) (h : m_impl_SizeStore p0 = some r) : Sc 151 [aX (M.Store.en p0)] [rI r] := by
 have i1 := inv fun m s => ∃ v3 : Int, ∃ v9 : Int, (s.t 3 = vI v3 ∧ s.t 7 = vL M.Item.en p0.Items ∧ s.t 8 = vI (List.length p0.Items : Int) ∧ s.t 9 = vI v9) ∧ m_impl_SizeStore_L1 p0 m v3 v9 = some r
 have e1 := @m_impl_SizeStore_L1.eq_2
 unfold m_impl_SizeStore at h
 exact sgo 26 [.tmp 2] Tryz.func151
instance : HasC 151 (type_of% @c151) := ⟨@c151⟩

theorem c195 (p0 r) (h : m_impl_SizeDatabase p0 = some r) : Sc 195 [aX (M.Database.en p0)] [rI r] := by
 have i1 := inv fun m s => ∃ v3 : Int, ∃ v9 : Int, (s.t 3 = vI v3 ∧ s.t 7 = vL M.Store.en p0.Stores ∧ s.t 8 = vI (List.length p0.Stores : Int) ∧ s.t 9 = vI v9) ∧ m_impl_SizeDatabase_L1 p0 m v3 v9 = some r
 have e1 := @m_impl_SizeDatabase_L1.eq_2
 unfold m_impl_SizeDatabase at h
 exact sgo 19 [.tmp 2] Tryz.func195
instance : HasC 195 (type_of% @c195) := ⟨@c195⟩

theorem c150 (p0 r) (h : m_impl_SizeDisk p0 = some r) : Sc 150 [aX (M.Disk.en p0)] [rI r] := by
 unfold m_impl_SizeDisk at h
 exact sgo 10 [.tmp 2] Tryz.func150
instance : HasC 150 (type_of% @c150) := ⟨@c150⟩

theorem c108 (p0 r) (h : m_impl_UsageOf p0 = some r) : Sc 108 [aX (M.Bucket.en p0)] [rI r] := by
 unfold m_impl_UsageOf at h
 exact sgo 23 [.tmp 2] Tryz.func108
instance : HasC 108 (type_of% @c108) := ⟨@c108⟩

theorem c67 (p0 r) (h : m_impl_IsBucket p0 = some r) : Sc 67 [aX (M.Bucket.en p0)] [rB r] := by
 unfold m_impl_IsBucket at h
 exact sgo 50 [.tmp 2] Tryz.func67
instance : HasC 67 (type_of% @c67) := ⟨@c67⟩

theorem c152 (p0 r) (h : m_impl_copyResponse p0 = some r) : Sc 152 [aX (M.Response.en p0)] [(true, M.Response.rs r)] := by
 unfold m_impl_copyResponse at h
 exact sgo 8 [.cell 2 188] Tryz.func152
instance : HasC 152 (type_of% @c152) := ⟨@c152⟩

theorem c109 (p0 r) (h : m_impl_copyCacheSet p0 = some r) : Sc 109 [aX (M.CacheSet.en p0)] [(true, M.CacheSet.rs r)] := by
 have i1 := invM [.b 3 0 7050100 144 2] fun m s => ∃ v13 : Int, ∃ r50100 : List M.Cache, ∃ u50100 : Nat, (s.t 2 = vP 2 1 0 ∧ s.t 3 = vP 3 1 0 ∧ s.t 11 = vL M.Cache.en p0.Caches ∧ s.t 12 = vI (List.length p0.Caches : Int) ∧ s.t 13 = vI v13 ∧ s.h 2 = (1, oB 51 [.nil]) ∧ s.h 3 = (1, oB 51 [.row 7050100 u50100]) ∧ s.h 7050100 = (u50100, oW 144 2 M.Cache.en r50100)) ∧ m_impl_copyCacheSet_L1 p0 m v13 r50100 = some r
 have e1 := @m_impl_copyCacheSet_L1.eq_2
 have i2 := fun (v13 : Int) (r50100 : List M.Cache) (x11 : M.Cache) (k17 : Int → List M.Cached → Option M.CacheSet) (s1 : St) (u50100 : Nat) => invM [.b 6 1 7050000 190 7] fun m s => ∃ v23_L2 : Int, ∃ r50000_L2 : List M.Cached, ∃ u50000_L2 : Nat, (s.t 2 = vP 2 1 0 ∧ s.t 3 = vP 3 1 0 ∧ s.t 6 = vP 6 ((s1.h 6).1 + 1) 0 ∧ s.t 11 = vL M.Cache.en p0.Caches ∧ s.t 12 = vI (List.length p0.Caches : Int) ∧ s.t 13 = vI v13 ∧ s.t 21 = vL M.Cached.en x11.Entries ∧ s.t 22 = vI (List.length x11.Entries : Int) ∧ s.t 23 = vI v23_L2 ∧ s.h 2 = (1, oB 51 [.nil]) ∧ s.h 3 = (1, oB 51 [.row 7050100 u50100]) ∧ s.h 6 = (((s1.h 6).1 + 1), oB 144 [cI x11.Version, .row 7050000 u50000_L2]) ∧ s.h 7050000 = (u50000_L2, oW 190 7 M.Cached.en r50000_L2) ∧ s.h 7050100 = (u50100, oW 144 2 M.Cache.en r50100)) ∧ m_impl_copyCacheSet_L2 x11 k17 m v23_L2 r50000_L2 = some r
 have e2 := @m_impl_copyCacheSet_L2.eq_2
 unfold m_impl_copyCacheSet at h
 exact sgo 46 [.cell 2 51] Tryz.func109
instance : HasC 109 (type_of% @c109) := ⟨@c109⟩

theorem c155 (p0 r) (h : m_impl_copyStore p0 = some r) : Sc 155 [aX (M.Store.en p0)] [(true, M.Store.rs r)] := by
 have i1 := invM [.b 3 1 7050000 177 4] fun m s => ∃ v14 : Int, ∃ r50000 : List M.Item, ∃ u50000 : Nat, (s.t 2 = vP 2 1 0 ∧ s.t 3 = vP 3 1 0 ∧ s.t 12 = vL M.Item.en p0.Items ∧ s.t 13 = vI (List.length p0.Items : Int) ∧ s.t 14 = vI v14 ∧ s.h 2 = (1, oB 60 [cS (⟨#[]⟩ : ByteArray), .nil, cI 0]) ∧ s.h 3 = (1, oB 60 [cS p0.Name, .row 7050000 u50000, cI p0.Auto]) ∧ s.h 7050000 = (u50000, oW 177 4 M.Item.en r50000)) ∧ m_impl_copyStore_L1 p0 m v14 r50000 = some r
 have e1 := @m_impl_copyStore_L1.eq_2
 unfold m_impl_copyStore at h
 exact sgo 27 [.cell 2 60] Tryz.func155
instance : HasC 155 (type_of% @c155) := ⟨@c155⟩

theorem c153 (p0 r) (h : m_impl_copyDatabase p0 = some r) : Sc 153 [aX (M.Database.en p0)] [(true, M.Database.rs r)] := by
 have i1 := invM [.b 3 2 7050000 60 3] fun m s => ∃ v18 : Int, ∃ r50000 : List M.Store, ∃ u50000 : Nat, (s.t 2 = vP 2 1 0 ∧ s.t 3 = vP 3 1 0 ∧ s.t 16 = vL M.Store.en p0.Stores ∧ s.t 17 = vI (List.length p0.Stores : Int) ∧ s.t 18 = vI v18 ∧ s.h 2 = (1, oB 55 [cS (⟨#[]⟩ : ByteArray), cI 0, .nil, .nil]) ∧ s.h 3 = (1, oB 55 [cS p0.Name, cI p0.Version, .row 7050000 u50000, .row 100010 2]) ∧ s.h 100010 = (2, oW 159 2 M.IndexDef.en p0.Unique) ∧ s.h 7050000 = (u50000, oW 60 3 M.Store.en r50000)) ∧ m_impl_copyDatabase_L1 p0 m v18 r50000 = some r
 have e1 := @m_impl_copyDatabase_L1.eq_2
 unfold m_impl_copyDatabase at h
 exact sgo 31 [.cell 2 55] Tryz.func153
instance : HasC 153 (type_of% @c153) := ⟨@c153⟩

theorem c110 (p0 r) (h : m_impl_copyDisk p0 = some r) : Sc 110 [aX (M.Disk.en p0)] [(true, M.Disk.rs r)] := by
 unfold m_impl_copyDisk at h
 exact sgo 12 [.cell 2 57] Tryz.func110
instance : HasC 110 (type_of% @c110) := ⟨@c110⟩

theorem c199 (p0 r) (h : m_impl_copyOutbox p0 = some r) : Sc 199 [aX (M.Outbox.en p0)] [(true, M.Outbox.rs r)] := by
 unfold m_impl_copyOutbox at h
 exact sgo 9 [.cell 2 63] Tryz.func199
instance : HasC 199 (type_of% @c199) := ⟨@c199⟩

theorem c156 (p0 r) (h : m_impl_copySync p0 = some r) : Sc 156 [aX (M.Sync.en p0)] [(true, M.Sync.rs r)] := by
 unfold m_impl_copySync at h
 exact sgo 8 [.cell 2 65] Tryz.func156
instance : HasC 156 (type_of% @c156) := ⟨@c156⟩

theorem c111 (p0 r) (h : m_impl_copyReplica p0 = some r) : Sc 111 [aX (M.Replica.en p0)] [(true, M.Replica.rs r)] := by
 unfold m_impl_copyReplica at h
 exact sgo 12 [.cell 2 67] Tryz.func111
instance : HasC 111 (type_of% @c111) := ⟨@c111⟩

theorem c68 (p0 r) (h : m_impl_copyBucket p0 = some r) : Sc 68 [aX (M.Bucket.en p0)] [(true, M.Bucket.rs r)] := by
 unfold m_impl_copyBucket at h
 exact sgo 16 [.cell 2 69] Tryz.func68
instance : HasC 68 (type_of% @c68) := ⟨@c68⟩

theorem c38 (p0 p1 r) (h : m_impl_changedBucket p0 p1 = some r) : Sc 38 [aX (M.Bucket.en p0), aX (M.Bucket.en p1)] [(true, M.Bucket.rs r.1), rB r.2] := by
 unfold m_impl_changedBucket at h
 exact sgo 18 [.cell 4 69, .tmp 5] Tryz.func38
instance : HasC 38 (type_of% @c38) := ⟨@c38⟩

theorem c11 (p0 p1 r) (h : m_impl_ReplaceDisk p0 p1 = some r) : Sc 11 [aX (M.Bucket.en p0), aX (M.Disk.en p1)] [(true, M.Bucket.rs r.1), rB r.2] := by
 unfold m_impl_ReplaceDisk at h
 exact sgo 15 [.cell 4 69, .tmp 5] Tryz.func11
instance : HasC 11 (type_of% @c11) := ⟨@c11⟩

theorem c20 (p0 p1 r) (h : m_impl_ReplaceReplica p0 p1 = some r) : Sc 20 [aX (M.Bucket.en p0), aX (M.Replica.en p1)] [(true, M.Bucket.rs r.1), rB r.2] := by
 unfold m_impl_ReplaceReplica at h
 exact sgo 15 [.cell 4 69, .tmp 5] Tryz.func20
instance : HasC 20 (type_of% @c20) := ⟨@c20⟩

theorem c28 (p0 p1 p2 r) (h : m_impl_ReplaceCaches p0 p1 p2 = some r) : Sc 28 [aX (M.Bucket.en p0), aX (M.CacheSet.en p1), aX (M.Registration.en p2)] [(true, M.Bucket.rs r.1), rB r.2] := by
 unfold m_impl_ReplaceCaches at h
 exact sgo 19 [.cell 6 69, .tmp 7] Tryz.func28
instance : HasC 28 (type_of% @c28) := ⟨@c28⟩

end Go.Proofs.YtmpbibngijnfeaaGreat.gen
