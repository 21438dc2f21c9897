/-
  Helper text: walks: each function's contract out of its model. No conditions beyond those of each contract.
-/
import Derived.Test.YtgemmnkhddlhpaaGreatPutBucketTi
import Derived.Test.YtgemmnkhddlhpaaGreatPutBucketWmark0
namespace Go.Proofs.YtgemmnkhddlhpaaGreat.gen
open Go Go.Sh
set_option linter.unusedVariables false
set_option linter.unusedSimpArgs false
set_option maxRecDepth 20000
set_option maxHeartbeats 4000000
theorem c162 (p0 p1 r) (h : m_laws_heldByteS p0 p1 = some r) : Sc 162 [aL enB p0, aI p1] [rI r] := by
 have i1 := inv fun m s => ∃ v1 : Int, ∃ v5 : Int, (s.t 0 = vL enB p0 ∧ s.t 1 = vI v1 ∧ s.t 5 = vI v5) ∧ m_laws_heldByteS_L1 p0 m v1 v5 = some r
 have e1 := @m_laws_heldByteS_L1.eq_2
 unfold m_laws_heldByteS at h
 exact sgo 22 [.tmp 4] Tryz.func162
instance : HasC 162 (type_of% @c162) := ⟨@c162⟩

theorem c264 (p0 p1 r) (h : m_laws_heldCachedS p0 p1 = some r) : Sc 264 [aL M.Cached.en p0, aI p1] [rI r] := by
 have i1 := inv fun m s => ∃ v1 : Int, ∃ v5 : Int, (s.t 0 = vL M.Cached.en p0 ∧ s.t 1 = vI v1 ∧ s.t 5 = vI v5) ∧ m_laws_heldCachedS_L1 p0 m v1 v5 = some r
 have e1 := @m_laws_heldCachedS_L1.eq_2
 unfold m_laws_heldCachedS at h
 exact sgo 85 [.tmp 4] Tryz.func264
instance : HasC 264 (type_of% @c264) := ⟨@c264⟩

theorem c160 (p0 p1 r) (h : m_laws_heldCacheS p0 p1 = some r) : Sc 160 [aL M.Cache.en p0, aI p1] [rI r] := by
 have i1 := inv fun m s => ∃ v1 : Int, ∃ v5 : Int, (s.t 0 = vL M.Cache.en p0 ∧ s.t 1 = vI v1 ∧ s.t 5 = vI v5) ∧ m_laws_heldCacheS_L1 p0 m v1 v5 = some r
 have e1 := @m_laws_heldCacheS_L1.eq_2
 unfold m_laws_heldCacheS at h
 exact sgo 31 [.tmp 4] Tryz.func160
instance : HasC 160 (type_of% @c160) := ⟨@c160⟩

theorem c310 (p0 p1 r) (h : m_laws_heldFieldS p0 p1 = some r) : Sc 310 [aL M.Field.en p0, aI p1] [rI r] := by
 have i1 := inv fun m s => ∃ v1 : Int, ∃ v5 : Int, (s.t 0 = vL M.Field.en p0 ∧ s.t 1 = vI v1 ∧ s.t 5 = vI v5) ∧ m_laws_heldFieldS_L1 p0 m v1 v5 = some r
 have e1 := @m_laws_heldFieldS_L1.eq_2
 unfold m_laws_heldFieldS at h
 exact sgo 32 [.tmp 4] Tryz.func310
instance : HasC 310 (type_of% @c310) := ⟨@c310⟩

theorem c223 (p0 p1 r) (h : m_laws_heldItemS p0 p1 = some r) : Sc 223 [aL M.Item.en p0, aI p1] [rI r] := by
 have i1 := inv fun m s => ∃ v1 : Int, ∃ v5 : Int, (s.t 0 = vL M.Item.en p0 ∧ s.t 1 = vI v1 ∧ s.t 5 = vI v5) ∧ m_laws_heldItemS_L1 p0 m v1 v5 = some r
 have e1 := @m_laws_heldItemS_L1.eq_2
 unfold m_laws_heldItemS at h
 exact sgo 54 [.tmp 4] Tryz.func223
instance : HasC 223 (type_of% @c223) := ⟨@c223⟩

theorem c221 (p0 p1 r) (h : m_laws_heldStoreS p0 p1 = some r) : Sc 221 [aL M.Store.en p0, aI p1] [rI r] := by
 have i1 := inv fun m s => ∃ v1 : Int, ∃ v5 : Int, (s.t 0 = vL M.Store.en p0 ∧ s.t 1 = vI v1 ∧ s.t 5 = vI v5) ∧ m_laws_heldStoreS_L1 p0 m v1 v5 = some r
 have e1 := @m_laws_heldStoreS_L1.eq_2
 unfold m_laws_heldStoreS at h
 exact sgo 41 [.tmp 4] Tryz.func221
instance : HasC 221 (type_of% @c221) := ⟨@c221⟩

theorem c222 (p0 p1 r) (h : m_laws_heldIndexDefS p0 p1 = some r) : Sc 222 [aL M.IndexDef.en p0, aI p1] [rI r] := by
 have i1 := inv fun m s => ∃ v1 : Int, ∃ v5 : Int, (s.t 0 = vL M.IndexDef.en p0 ∧ s.t 1 = vI v1 ∧ s.t 5 = vI v5) ∧ m_laws_heldIndexDefS_L1 p0 m v1 v5 = some r
 have e1 := @m_laws_heldIndexDefS_L1.eq_2
 unfold m_laws_heldIndexDefS at h
 exact sgo 33 [.tmp 4] Tryz.func222
instance : HasC 222 (type_of% @c222) := ⟨@c222⟩

theorem c224 (p0 p1 r) (h : m_laws_heldWriteS p0 p1 = some r) : Sc 224 [aL M.Write.en p0, aI p1] [rI r] := by
 have i1 := inv fun m s => ∃ v1 : Int, ∃ v5 : Int, (s.t 0 = vL M.Write.en p0 ∧ s.t 1 = vI v1 ∧ s.t 5 = vI v5) ∧ m_laws_heldWriteS_L1 p0 m v1 v5 = some r
 have e1 := @m_laws_heldWriteS_L1.eq_2
 unfold m_laws_heldWriteS at h
 exact sgo 81 [.tmp 4] Tryz.func224
instance : HasC 224 (type_of% @c224) := ⟨@c224⟩

theorem c130 (p0 p1 r) (h : m_laws_heldBucketS p0 p1 = some r) : Sc 130 [aL M.Bucket.en p0, aI p1] [rI r] := by
  unfold m_laws_heldBucketS at h
  simp only [EN]
  refine sgn 271 [.tmp 4] Tryz.func130 fun base wd => ?_
  refine sq (rn ?_)
  refine an (sq (sq (rn ?_)))
  refine an (bk ?_)
  refine SW_loop (fun m s => ∃ v1 : Int, ∃ v5 : Int, s.t 0 = vL M.Bucket.en p0 ∧ s.t 1 = vI v1 ∧ s.t 5 = vI v5 ∧ m_laws_heldBucketS_L1 p0 m v1 v5 = some r) fuel ?_ ?_
  · refine ⟨p1, 0, ?_, ?_, ?_, h⟩
    all_goals simp +decide only [F, reduceIte, Nat.reduceAdd, Bool.not_true, Bool.not_false, EN, *, -h]
  rintro mL1 s1 ⟨v1, v5, f2, f3, f4, h⟩
  rcases mL1 with _ | mL1
  · exact absurd h (by simp [m_laws_heldBucketS_L1])
  simp only [m_laws_heldBucketS_L1] at h
  refine sq (sq (rn ?_))
  refine an ?_
  rcases bcas (decide (v5 < (List.length p0 : Int))) with b5 | b5
  · replace h := ite_f b5 h
    refine cf (xt (aft_cx (aft_ix (aft_x (an (sq (rn ?_)))))))
    refine an (rt ?_)
    cases h
    simp [Ret, TB, EN, *]
  replace h := ite_t b5 h
  refine ct (sk (an (sq (bk (sq (sq ?_))))))
  obtain ⟨x6, h7, h⟩ := bind_some h
  obtain ⟨q8, q9, q10⟩ := idx_some h7
  obtain ⟨x11, h12, h⟩ := bind_some h
  refine rd1 mixed (c219 _ _ h12) ?_
  refine an ?_
  rcases bcase (!(x6.Site.toList == x11.toList)) with b13 | b13
  · replace h := ite_t b13 h
    refine ct (sq (rn ?_))
    refine an (rt ?_)
    cases h
    simp [Ret, TB, EN, *]
  replace h := ite_f b13 h
  refine cf (sk (an (sq (rn ?_))))
  refine an (sq (sq ?_))
  obtain ⟨x14, h15, h⟩ := bind_some h
  refine rd1 mixed (c219 _ _ h15) ?_
  refine an ?_
  rcases bcase (!(x6.Top.toList == x14.toList)) with b16 | b16
  · replace h := ite_t b16 h
    refine ct (sq (rn ?_))
    refine an (rt ?_)
    cases h
    simp [Ret, TB, EN, *]
  replace h := ite_f b16 h
  refine cf (sk (an (sq (rn ?_))))
  refine an (sq (sq ?_))
  obtain ⟨x17, h18, h⟩ := bind_some h
  refine rd1 mixed (c219 _ _ h18) ?_
  refine an ?_
  rcases bcase (!(x6.Registration.Site.toList == x17.toList)) with b19 | b19
  · replace h := ite_t b19 h
    refine ct (sq (rn ?_))
    refine an (rt ?_)
    cases h
    simp [Ret, TB, EN, *]
  replace h := ite_f b19 h
  refine cf (sk (an (sq (rn ?_))))
  refine an (sq (sq (rn ?_)))
  refine an ?_
  rcases bcase (x6.Registration.Installing != (IntKind.i64.wrap ((IntKind.i64.wrap ((IntKind.i64.wrap (v1 + 1)) + 1)) + 1))) with b20 | b20
  · replace h := ite_t b20 h
    refine ct (sq (rn ?_))
    refine an (rt ?_)
    cases h
    simp [Ret, TB, EN, *]
  replace h := ite_f b20 h
  refine cf (sk (an (sq (rn ?_))))
  refine an (sq (sq (rn ?_)))
  refine an ?_
  rcases bcase (x6.Registration.Waiting != (IntKind.i64.wrap ((IntKind.i64.wrap ((IntKind.i64.wrap ((IntKind.i64.wrap (v1 + 1)) + 1)) + 1)) + 1))) with b21 | b21
  · replace h := ite_t b21 h
    refine ct (sq (rn ?_))
    refine an (rt ?_)
    cases h
    simp [Ret, TB, EN, *]
  replace h := ite_f b21 h
  refine cf (sk (an (sq (rn ?_))))
  refine an (sq (sq (rn ?_)))
  refine an ?_
  rcases bcase (x6.Registration.Active != (IntKind.i64.wrap ((IntKind.i64.wrap ((IntKind.i64.wrap ((IntKind.i64.wrap ((IntKind.i64.wrap (v1 + 1)) + 1)) + 1)) + 1)) + 1))) with b22 | b22
  · replace h := ite_t b22 h
    refine ct (sq (rn ?_))
    refine an (rt ?_)
    cases h
    simp [Ret, TB, EN, *]
  replace h := ite_f b22 h
  refine cf (sk (an (sq (rn ?_))))
  refine an (sq ?_)
  refine cu (fun s => s.t 0 = vL M.Bucket.en p0 ∧ s.t 1 = vI (IntKind.i64.wrap ((IntKind.i64.wrap ((IntKind.i64.wrap ((IntKind.i64.wrap ((IntKind.i64.wrap ((IntKind.i64.wrap (v1 + 1)) + 1)) + 1)) + 1)) + 1)) + 1)) ∧ s.t 5 = vI v5 ∧ True) ?_
  rintro s23 ⟨f24, f25, f26, _⟩
  obtain ⟨x27, h28, h⟩ := bind_some h
  refine rn1 (c160 _ _ _ h28) ?_
  refine an (sq (sq (rn ?_)))
  refine an ?_
  rcases bcase (decide (x27 < 0)) with b29 | b29
  · replace h := ite_t b29 h
    refine ct (sq (rn ?_))
    refine an (rt ?_)
    cases h
    simp [Ret, TB, EN, *]
  replace h := ite_f b29 h
  refine cf (sk (an (sq (sq ?_))))
  obtain ⟨x30, h31, h⟩ := bind_some h
  refine rd1 mixed (c219 _ _ h31) ?_
  refine an ?_
  rcases bcase (!(x6.Disk.Base.Name.toList == x30.toList)) with b32 | b32
  · replace h := ite_t b32 h
    refine ct (sq (rn ?_))
    refine an (rt ?_)
    cases h
    simp [Ret, TB, EN, *]
  replace h := ite_f b32 h
  refine cf (sk (an (sq (rn ?_))))
  refine an (sq (sq (rn ?_)))
  refine an ?_
  rcases bcase (x6.Disk.Base.Version != (IntKind.i64.wrap (x27 + 1))) with b33 | b33
  · replace h := ite_t b33 h
    refine ct (sq (rn ?_))
    refine an (rt ?_)
    cases h
    simp [Ret, TB, EN, *]
  replace h := ite_f b33 h
  refine cf (sk (an (sq (rn ?_))))
  refine an (sq ?_)
  obtain ⟨x34, h35, h⟩ := bind_some h
  refine rn1 (c221 _ _ _ h35) ?_
  refine an (sq (sq (rn ?_)))
  refine an ?_
  rcases bcase (decide (x34 < 0)) with b36 | b36
  · replace h := ite_t b36 h
    refine ct (sq (rn ?_))
    refine an (rt ?_)
    cases h
    simp [Ret, TB, EN, *]
  replace h := ite_f b36 h
  refine cf (sk (an (sq ?_)))
  obtain ⟨x37, h38, h⟩ := bind_some h
  refine rn1 (c222 _ _ _ h38) ?_
  refine an (sq (sq (rn ?_)))
  refine an ?_
  rcases bcase (decide (x37 < 0)) with b39 | b39
  · replace h := ite_t b39 h
    refine ct (sq (rn ?_))
    refine an (rt ?_)
    cases h
    simp [Ret, TB, EN, *]
  replace h := ite_f b39 h
  refine cf (sk (an (sq ?_)))
  obtain ⟨x40, h41, h⟩ := bind_some h
  refine rn1 (c162 _ _ _ h41) ?_
  refine an (sq (sq (rn ?_)))
  refine an ?_
  rcases bcase (decide (x40 < 0)) with b42 | b42
  · replace h := ite_t b42 h
    refine ct (sq (rn ?_))
    refine an (rt ?_)
    cases h
    simp [Ret, TB, EN, *]
  replace h := ite_f b42 h
  refine cf (sk (an (sq (sq ?_))))
  refine cu (fun s => s.t 0 = vL M.Bucket.en p0 ∧ s.t 1 = vI x40 ∧ s.t 5 = vI v5 ∧ True) ?_
  rintro s43 ⟨f44, f45, f46, _⟩
  refine rn ?_
  refine an ?_
  rcases bcase (x6.Disk.Count != x40) with b47 | b47
  · replace h := ite_t b47 h
    refine ct (sq (rn ?_))
    refine an (rt ?_)
    cases h
    simp [Ret, TB, EN, *]
  replace h := ite_f b47 h
  refine cf (sk (an (sq (rn ?_))))
  refine an (sq (sq ?_))
  obtain ⟨x48, h49, h⟩ := bind_some h
  refine rd1 mixed (c219 _ _ h49) ?_
  refine an ?_
  rcases bcase (!(x6.Replica.Base.Name.toList == x48.toList)) with b50 | b50
  · replace h := ite_t b50 h
    refine ct (sq (rn ?_))
    refine an (rt ?_)
    cases h
    simp [Ret, TB, EN, *]
  replace h := ite_f b50 h
  refine cf (sk (an (sq (rn ?_))))
  refine an (sq ?_)
  obtain ⟨x51, h52, h⟩ := bind_some h
  refine rn1 (c223 _ _ _ h52) ?_
  refine an (sq (sq (rn ?_)))
  refine an ?_
  rcases bcase (decide (x51 < 0)) with b53 | b53
  · replace h := ite_t b53 h
    refine ct (sq (rn ?_))
    refine an (rt ?_)
    cases h
    simp [Ret, TB, EN, *]
  replace h := ite_f b53 h
  refine cf (sk (an (sq (sq (rn ?_)))))
  refine an ?_
  rcases bcase (x6.Replica.Base.Auto != x51) with b54 | b54
  · replace h := ite_t b54 h
    refine ct (sq (rn ?_))
    refine an (rt ?_)
    cases h
    simp [Ret, TB, EN, *]
  replace h := ite_f b54 h
  refine cf (sk (an (sq (rn ?_))))
  refine an (sq (sq (rn ?_)))
  refine an ?_
  rcases bcase (x6.Replica.Seen != (IntKind.i64.wrap (x51 + 1))) with b55 | b55
  · replace h := ite_t b55 h
    refine ct (sq (rn ?_))
    refine an (rt ?_)
    cases h
    simp [Ret, TB, EN, *]
  replace h := ite_f b55 h
  refine cf (sk (an (sq (rn ?_))))
  refine an (sq (sq (rn ?_)))
  refine an ?_
  rcases bcase (x6.Replica.Sync.Outbox.Device != (IntKind.i64.wrap ((IntKind.i64.wrap (x51 + 1)) + 1))) with b56 | b56
  · replace h := ite_t b56 h
    refine ct (sq (rn ?_))
    refine an (rt ?_)
    cases h
    simp [Ret, TB, EN, *]
  replace h := ite_f b56 h
  refine cf (sk (an (sq (rn ?_))))
  refine an (sq (sq ?_))
  refine cu (fun s => s.t 0 = vL M.Bucket.en p0 ∧ s.t 1 = vI (IntKind.i64.wrap ((IntKind.i64.wrap ((IntKind.i64.wrap (x51 + 1)) + 1)) + 1)) ∧ s.t 5 = vI v5 ∧ True) ?_
  rintro s57 ⟨f58, f59, f60, _⟩
  refine rn ?_
  refine an ?_
  rcases bcase (x6.Replica.Sync.Outbox.Next != (IntKind.i64.wrap ((IntKind.i64.wrap ((IntKind.i64.wrap (x51 + 1)) + 1)) + 1))) with b61 | b61
  · replace h := ite_t b61 h
    refine ct (sq (rn ?_))
    refine an (rt ?_)
    cases h
    simp [Ret, TB, EN, *]
  replace h := ite_f b61 h
  refine cf (sk (an (sq (rn ?_))))
  refine an (sq ?_)
  obtain ⟨x62, h63, h⟩ := bind_some h
  refine rn1 (c224 _ _ _ h63) ?_
  refine an (sq (sq (rn ?_)))
  refine an ?_
  rcases bcase (decide (x62 < 0)) with b64 | b64
  · replace h := ite_t b64 h
    refine ct (sq (rn ?_))
    refine an (rt ?_)
    cases h
    simp [Ret, TB, EN, *]
  replace h := ite_f b64 h
  refine cf (sk (an (sq (sq (rn ?_)))))
  refine an ?_
  rcases bcase (x6.Replica.Sync.Tries != x62) with b65 | b65
  · replace h := ite_t b65 h
    refine ct (sq (rn ?_))
    refine an (rt ?_)
    cases h
    simp [Ret, TB, EN, *]
  replace h := ite_f b65 h
  refine cf (sk (an (sq (rn ?_))))
  refine an (sq (sq (rn ?_)))
  refine an ?_
  rcases bcase (x6.Replica.Sync.WaitUntil != (IntKind.i64.wrap (x62 + 1))) with b66 | b66
  · replace h := ite_t b66 h
    refine ct (sq (rn ?_))
    refine an (rt ?_)
    cases h
    simp [Ret, TB, EN, *]
  replace h := ite_f b66 h
  refine cf (sk (an (sq (rn ?_))))
  refine an (sq (sq (rn ?_)))
  refine an ?_
  rcases bcase (x6.LastUsed != (IntKind.i64.wrap ((IntKind.i64.wrap (x62 + 1)) + 1))) with b67 | b67
  · replace h := ite_t b67 h
    refine ct (sq (rn ?_))
    refine an (rt ?_)
    cases h
    simp [Ret, TB, EN, *]
  replace h := ite_f b67 h
  refine cf (sk (an (sq (rn ?_))))
  refine an (sq (sq (rn ?_)))
  refine an ?_
  rcases bcase (!(x6.Persistent == ((Int.tmod (IntKind.i64.wrap ((IntKind.i64.wrap ((IntKind.i64.wrap (x62 + 1)) + 1)) + 1)) 3) == 0))) with b68 | b68
  · replace h := ite_t b68 h
    refine ct (sq (rn ?_))
    refine an (rt ?_)
    cases h
    simp [Ret, TB, EN, *]
  replace h := ite_f b68 h
  refine cf (sk (an (rn ?_)))
  refine ab (an (rn ?_))
  refine aft_i ⟨mL1, by omega, (IntKind.i64.wrap ((IntKind.i64.wrap ((IntKind.i64.wrap ((IntKind.i64.wrap (x62 + 1)) + 1)) + 1)) + 1)), (IntKind.i64.wrap (v5 + 1)), ?_, ?_, ?_, h⟩
  all_goals simp +decide only [F, reduceIte, Nat.reduceAdd, Bool.not_true, Bool.not_false, EN, *, -h]
instance : HasC 130 (type_of% @c130) := ⟨@c130⟩

theorem c48 (p0 p1 r) (h : m_laws_heldStorage p0 p1 = some r) : Sc 48 [aX (M.Storage.en p0), aI p1] [rI r] := by
 unfold m_laws_heldStorage at h
 exact sgo 12 [.tmp 4] Tryz.func48
instance : HasC 48 (type_of% @c48) := ⟨@c48⟩

end Go.Proofs.YtgemmnkhddlhpaaGreat.gen
