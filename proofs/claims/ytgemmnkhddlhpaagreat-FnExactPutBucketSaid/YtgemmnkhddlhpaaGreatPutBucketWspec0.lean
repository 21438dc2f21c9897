/-
  Helper text: walks: each function's contract out of its model. No conditions beyond those of each contract.
-/
import Derived.Test.YtgemmnkhddlhpaaGreatPutBucketTi
namespace Go.Proofs.YtgemmnkhddlhpaaGreat.gen
open Go Go.Sh
set_option linter.unusedVariables false
set_option linter.unusedSimpArgs false
set_option maxRecDepth 20000
set_option maxHeartbeats 4000000
theorem c302 (p0 r) (h : m_spec_l15Copy p0 = some r) : Sc 302 [aX (M.Response.en p0)] [(true, M.Response.rs r)] := by
 unfold m_spec_l15Copy at h
 exact sgo 11 [.cell 2 345] Tryz.func302
instance : HasC 302 (type_of% @c302) := ⟨@c302⟩

theorem c208 (p0 r) (h : m_spec_l17Cache p0 = some r) : Sc 208 [aX (M.Cache.en p0)] [(true, M.Cache.rs r)] := by
 have i1 := invM [.b 3 1 7050000 347 7] fun m s => ∃ v4 : Int, ∃ r50000 : List M.Cached, ∃ u50000 : Nat, (s.t 1 = vP 1 1 0 ∧ s.t 2 = vP 2 1 0 ∧ s.t 3 = vP 3 1 0 ∧ s.t 4 = vI v4 ∧ s.h 1 = (1, oX 297 (M.Cache.en p0)) ∧ s.h 2 = (1, oB 297 [cI 0, .nil]) ∧ s.h 3 = (1, oB 297 [cI p0.Version, .row 7050000 u50000]) ∧ s.h 7050000 = (u50000, oW 347 7 M.Cached.en r50000)) ∧ m_spec_l17Cache_L1 p0 m v4 r50000 = some r
 have e1 := @m_spec_l17Cache_L1.eq_2
 unfold m_spec_l17Cache at h
 exact sgo 36 [.cell 2 297] Tryz.func208
instance : HasC 208 (type_of% @c208) := ⟨@c208⟩

theorem c112 (p0 r) (h : m_spec_l17Copy p0 = some r) : Sc 112 [aX (M.CacheSet.en p0)] [(true, M.CacheSet.rs r)] := by
 have i1 := invM [.b 3 0 7050000 297 2] fun m s => ∃ v4 : Int, ∃ r50000 : List M.Cache, ∃ u50000 : Nat, (s.t 1 = vP 1 1 0 ∧ s.t 2 = vP 2 1 0 ∧ s.t 3 = vP 3 1 0 ∧ s.t 4 = vI v4 ∧ s.h 1 = (1, oX 26 (M.CacheSet.en p0)) ∧ s.h 2 = (1, oB 26 [.nil]) ∧ s.h 3 = (1, oB 26 [.row 7050000 u50000]) ∧ s.h 7050000 = (u50000, oW 297 2 M.Cache.en r50000)) ∧ m_spec_l17Copy_L1 p0 m v4 r50000 = some r
 have e1 := @m_spec_l17Copy_L1.eq_2
 unfold m_spec_l17Copy at h
 exact sgo 25 [.cell 2 26] Tryz.func112
instance : HasC 112 (type_of% @c112) := ⟨@c112⟩

theorem c232 (p0 r) (h : m_spec_l5Copy p0 = some r) : Sc 232 [aX (M.Record.en p0)] [(true, M.Record.rs r)] := by
 unfold m_spec_l5Copy at h
 exact sgo 8 [.cell 2 225] Tryz.func232
instance : HasC 232 (type_of% @c232) := ⟨@c232⟩

theorem c296 (p0 r) (h : m_spec_l6Item p0 = some r) : Sc 296 [aX (M.Item.en p0)] [(true, M.Item.rs r)] := by
 unfold m_spec_l6Item at h
 exact sgo 9 [.cell 2 315] Tryz.func296
instance : HasC 296 (type_of% @c296) := ⟨@c296⟩

theorem c199 (p0 r) (h : m_spec_l6Copy p0 = some r) : Sc 199 [aX (M.Store.en p0)] [(true, M.Store.rs r)] := by
 have i1 := invM [.b 3 1 7050000 315 4] fun m s => ∃ v4 : Int, ∃ r50000 : List M.Item, ∃ u50000 : Nat, (s.t 1 = vP 1 1 0 ∧ s.t 2 = vP 2 1 0 ∧ s.t 3 = vP 3 1 0 ∧ s.t 4 = vI v4 ∧ s.h 1 = (1, oX 36 (M.Store.en p0)) ∧ s.h 2 = (1, oB 36 [cS (⟨#[]⟩ : ByteArray), .nil, cI 0]) ∧ s.h 3 = (1, oB 36 [cS p0.Name, .row 7050000 u50000, cI p0.Auto]) ∧ s.h 7050000 = (u50000, oW 315 4 M.Item.en r50000)) ∧ m_spec_l6Copy_L1 p0 m v4 r50000 = some r
 have e1 := @m_spec_l6Copy_L1.eq_2
 unfold m_spec_l6Copy at h
 exact sgo 29 [.cell 2 36] Tryz.func199
instance : HasC 199 (type_of% @c199) := ⟨@c199⟩

theorem c190 (p0 r) (h : m_spec_l8Copy p0 = some r) : Sc 190 [aX (M.Database.en p0)] [(true, M.Database.rs r)] := by
 have i1 := invM [.b 3 2 7050000 36 3] fun m s => ∃ v4 : Int, ∃ r50000 : List M.Store, ∃ u50000 : Nat, (s.t 1 = vP 1 1 0 ∧ s.t 2 = vP 2 1 0 ∧ s.t 3 = vP 3 1 0 ∧ s.t 4 = vI v4 ∧ s.h 1 = (1, oX 30 (M.Database.en p0)) ∧ s.h 2 = (1, oB 30 [cS (⟨#[]⟩ : ByteArray), cI 0, .nil, .nil]) ∧ s.h 3 = (1, oB 30 [cS p0.Name, cI p0.Version, .row 7050000 u50000, .row 100009 2]) ∧ s.h 100009 = (2, oW 337 2 M.IndexDef.en p0.Unique) ∧ s.h 7050000 = (u50000, oW 36 3 M.Store.en r50000)) ∧ m_spec_l8Copy_L1 p0 m v4 r50000 = some r
 have e1 := @m_spec_l8Copy_L1.eq_2
 unfold m_spec_l8Copy at h
 exact sgo 33 [.cell 2 30] Tryz.func190
instance : HasC 190 (type_of% @c190) := ⟨@c190⟩

theorem c93 (p0 r) (h : m_spec_l12Copy p0 = some r) : Sc 93 [aX (M.Disk.en p0)] [(true, M.Disk.rs r)] := by
 unfold m_spec_l12Copy at h
 exact sgo 13 [.cell 2 33] Tryz.func93
instance : HasC 93 (type_of% @c93) := ⟨@c93⟩

theorem c297 (p0 r) (h : m_spec_l20Copy p0 = some r) : Sc 297 [aX (M.Outbox.en p0)] [(true, M.Outbox.rs r)] := by
 unfold m_spec_l20Copy at h
 exact sgo 11 [.cell 2 39] Tryz.func297
instance : HasC 297 (type_of% @c297) := ⟨@c297⟩

theorem c200 (p0 r) (h : m_spec_l22Copy p0 = some r) : Sc 200 [aX (M.Sync.en p0)] [(true, M.Sync.rs r)] := by
 unfold m_spec_l22Copy at h
 exact sgo 10 [.cell 2 41] Tryz.func200
instance : HasC 200 (type_of% @c200) := ⟨@c200⟩

theorem c104 (p0 r) (h : m_spec_l23Copy p0 = some r) : Sc 104 [aX (M.Replica.en p0)] [(true, M.Replica.rs r)] := by
 unfold m_spec_l23Copy at h
 exact sgo 12 [.cell 2 43] Tryz.func104
instance : HasC 104 (type_of% @c104) := ⟨@c104⟩

theorem c92 (p0 r) (h : m_spec_l27Copy p0 = some r) : Sc 92 [aX (M.Bucket.en p0)] [(true, M.Bucket.rs r)] := by
 unfold m_spec_l27Copy at h
 exact sgo 18 [.cell 2 45] Tryz.func92
instance : HasC 92 (type_of% @c92) := ⟨@c92⟩

theorem c117 (p0 r) (h : m_spec_l28Copy p0 = some r) : Sc 117 [aX (M.Storage.en p0)] [(true, M.Storage.rs r)] := by
 have i1 := invM [.b 3 0 7050000 45 24] fun m s => ∃ v4 : Int, ∃ r50000 : List M.Bucket, ∃ u50000 : Nat, (s.t 1 = vP 1 1 0 ∧ s.t 2 = vP 2 1 0 ∧ s.t 3 = vP 3 1 0 ∧ s.t 4 = vI v4 ∧ s.h 1 = (1, oX 69 (M.Storage.en p0)) ∧ s.h 2 = (1, oB 69 [.nil]) ∧ s.h 3 = (1, oB 69 [.row 7050000 u50000]) ∧ s.h 7050000 = (u50000, oW 45 24 M.Bucket.en r50000)) ∧ m_spec_l28Copy_L1 p0 m v4 r50000 = some r
 have e1 := @m_spec_l28Copy_L1.eq_2
 unfold m_spec_l28Copy at h
 exact sgo 25 [.cell 2 69] Tryz.func117
instance : HasC 117 (type_of% @c117) := ⟨@c117⟩

theorem c118 (p0 p1 p2 r) (h : m_spec_FindBucket p0 p1 p2 = some r) : Sc 118 [aX (M.Storage.en p0), aS p1, aS p2] [rI r] := by
 have i1 := inv fun m s => ∃ v7 : Int, (s.t 1 = vS p1 ∧ s.t 2 = vS p2 ∧ s.t 3 = vP 3 1 0 ∧ s.t 7 = vI v7 ∧ s.h 3 = (1, oX 69 (M.Storage.en p0))) ∧ m_spec_FindBucket_L1 p0 p1 p2 m v7 = some r
 have e1 := @m_spec_FindBucket_L1.eq_2
 unfold m_spec_FindBucket at h
 exact sgo 34 [.tmp 6] Tryz.func118
instance : HasC 118 (type_of% @c118) := ⟨@c118⟩

theorem c119 (p0 p1 p2 r) (h : m_spec_l28Less p0 p1 p2 = some r) : Sc 119 [aX (M.Bucket.en p0), aS p1, aS p2] [rB r] := by
 unfold m_spec_l28Less at h
 exact sgo 23 [.tmp 6] Tryz.func119
instance : HasC 119 (type_of% @c119) := ⟨@c119⟩

theorem c150 (p0 p1 p2 r) (h : m_spec_l1In p0 p1 p2 = some r) : Sc 150 [aI p0, aI p1, aI p2] [rB r] := by
 unfold m_spec_l1In at h
 exact sgo 15 [.tmp 6] Tryz.func150
instance : HasC 150 (type_of% @c150) := ⟨@c150⟩

theorem c145 (p0 r) (h : m_spec_IsName p0 = some r) : Sc 145 [aS p0] [rB r] := by
 have i1 := inv fun m s => ∃ v3 : Int, (s.t 0 = vS p0 ∧ s.t 3 = vI v3) ∧ m_spec_IsName_L1 p0 m v3 = some r
 have e1 := @m_spec_IsName_L1.eq_2
 unfold m_spec_IsName at h
 exact sgo 23 [.tmp 2] Tryz.func145
instance : HasC 145 (type_of% @c145) := ⟨@c145⟩

theorem c146 (p0 r) (h : m_spec_IsRegistration p0 = some r) : Sc 146 [aX (M.Registration.en p0)] [rB r] := by
  unfold m_spec_IsRegistration at h
  simp only [EN]
  refine sgn 52 [.tmp 2] Tryz.func146 fun base wd => ?_
  refine sq (rn ?_)
  refine an (sq (rn ?_))
  refine an (sq (rn ?_))
  refine an (sq (sq ?_))
  refine cu (fun s => s.t 1 = vP 1 1 0 ∧ s.t 3 = vI 0 ∧ s.t 4 = vR 100012 1 ∧ s.h 1 = (1, oX 23 (M.Registration.en p0)) ∧ s.h 100012 = (1, oW 3 1 enI ([p0.Active, p0.Waiting, p0.Installing])) ∧ True) ?_
  rintro s1 ⟨f2, f3, f4, f5, f6, _⟩
  refine rn ?_
  refine an (bk ?_)
  refine SW_loop (fun m s => ∃ v3 : Int, ∃ v5 : Int, s.t 1 = vP 1 1 0 ∧ s.t 3 = vI v3 ∧ s.t 4 = vR 100012 1 ∧ s.t 5 = vI v5 ∧ s.h 1 = (1, oX 23 (M.Registration.en p0)) ∧ s.h 100012 = (1, oW 3 1 enI ([p0.Active, p0.Waiting, p0.Installing])) ∧ m_spec_IsRegistration_L1 p0 m v3 v5 = some r) fuel ?_ ?_
  · refine ⟨0, 0, ?_, ?_, ?_, ?_, ?_, ?_, h⟩
    all_goals simp +decide only [F, reduceIte, Nat.reduceAdd, Bool.not_true, Bool.not_false, EN, *, -h]
  rintro mL1 s7 ⟨v3, v5, f8, f9, f10, f11, f12, f13, h⟩
  rcases mL1 with _ | mL1
  · exact absurd h (by simp [m_spec_IsRegistration_L1])
  simp only [m_spec_IsRegistration_L1] at h
  refine sq (sq (rn ?_))
  refine an ?_
  rcases bcas (decide (v5 < ((3 : Nat) : Int))) with b14 | b14
  · replace h := ite_f b14 h
    refine cf (xt (aft_cx (aft_ix (aft_x (an (sq ?_))))))
    obtain ⟨x25, h26, h⟩ := bind_some h
    refine rn1 (c145 _ _ h26) ?_
    refine an (rt ?_)
    cases h
    simp [Ret, TB, EN, *]
  replace h := ite_t b14 h
  refine ct (sk (an (sq (bk (sq (sq ?_))))))
  obtain ⟨x15, h16, h⟩ := bind_some h
  obtain ⟨q17, q18, q19⟩ := idx_some h16
  have q17m := congrArg (Option.map enI) (show ([p0.Active, p0.Waiting, p0.Installing])[v5.toNat]? = some x15 by assumption)
  simp only [← List.getElem?_map, List.map_cons, List.map_nil, Option.map_some, EN] at q17m
  simp only [List.length_cons, List.length_nil, Nat.reduceAdd] at q19
  obtain ⟨x20, h21, h⟩ := bind_some h
  rcases bcase (!x20) with b22 | b22
  · replace h := ite_t b22 h
    refine rn1 (c150 _ _ _ _ h21) ?_
    refine an (ct (sq (rn ?_)))
    refine an (rt ?_)
    cases h
    simp [Ret, TB, EN, *]
  replace h := ite_f b22 h
  rcases bcas (x15 != 0) with b23 | b23
  · replace h := ite_f b23 h
    refine rn1 (c150 _ _ _ _ h21) ?_
    refine an (cf (sk (an (sq (rn ?_)))))
    refine an (cf (sk (ab (an (rn ?_)))))
    refine aft_i ⟨mL1, by omega, v3, (IntKind.i64.wrap (v5 + 1)), ?_, ?_, ?_, ?_, ?_, ?_, h⟩
    all_goals simp +decide only [F, reduceIte, Nat.reduceAdd, Bool.not_true, Bool.not_false, EN, *, -h]
  replace h := ite_t b23 h
  refine rn1 (c150 _ _ _ _ h21) ?_
  refine an ?_
  rcases bcase (decide (x15 ≤ v3)) with b24 | b24
  · replace h := ite_t b24 h
    refine ct (sq (rn ?_))
    refine an (rt ?_)
    cases h
    simp [Ret, TB, EN, *]
  replace h := ite_f b24 h
  refine cf (sk (an (sq (rn ?_))))
  refine an (ct (rn ?_))
  refine ab (an (rn ?_))
  refine aft_i ⟨mL1, by omega, x15, (IntKind.i64.wrap (v5 + 1)), ?_, ?_, ?_, ?_, ?_, ?_, h⟩
  all_goals simp +decide only [F, reduceIte, Nat.reduceAdd, Bool.not_true, Bool.not_false, EN, *, -h]
instance : HasC 146 (type_of% @c146) := ⟨@c146⟩

theorem c332 (p0 r) (h : m_spec_IsResponse p0 = some r) : Sc 332 [aX (M.Response.en p0)] [rB r] := by
 unfold m_spec_IsResponse at h
 exact sgo 22 [.tmp 2] Tryz.func332
instance : HasC 332 (type_of% @c332) := ⟨@c332⟩

theorem c248 (p0 r) (h : m_spec_l17Entries p0 = some r) : Sc 248 [aL M.Cached.en p0] [rB r] := by
 have i1 := inv fun m s => ∃ v3 : Int, (s.t 0 = vL M.Cached.en p0 ∧ s.t 3 = vI v3) ∧ m_spec_l17Entries_L1 p0 m v3 = some r
 have e1 := @m_spec_l17Entries_L1.eq_2
 have i2 := fun (v3 : Int) (x5 : M.Cached) (k20 : Int → Option Bool) => inv fun m s => ∃ v4_L2 : Int, (s.t 0 = vL M.Cached.en p0 ∧ s.t 3 = vI v3 ∧ s.t 4 = vI v4_L2) ∧ m_spec_l17Entries_L2 p0 v3 x5 k20 m v4_L2 = some r
 have e2 := @m_spec_l17Entries_L2.eq_2
 unfold m_spec_l17Entries at h
 exact sgo 68 [.tmp 2] Tryz.func248
instance : HasC 248 (type_of% @c248) := ⟨@c248⟩

theorem c147 (p0 r) (h : m_spec_IsCacheSet p0 = some r) : Sc 147 [aX (M.CacheSet.en p0)] [rB r] := by
 have i1 := inv fun m s => ∃ v3 : Int, (s.t 1 = vP 1 1 0 ∧ s.t 3 = vI v3 ∧ s.h 1 = (1, oX 26 (M.CacheSet.en p0))) ∧ m_spec_IsCacheSet_L1 p0 m v3 = some r
 have e1 := @m_spec_IsCacheSet_L1.eq_2
 unfold m_spec_IsCacheSet at h
 exact sgo 53 [.tmp 2] Tryz.func147
instance : HasC 147 (type_of% @c147) := ⟨@c147⟩

theorem c392 (p0 r) (h : m_spec_l4Text p0 = some r) : Sc 392 [aS p0] [rB r] := by
 have i1 := inv fun m s => ∃ v3 : Int, (s.t 0 = vS p0 ∧ s.t 3 = vI v3) ∧ m_spec_l4Text_L1 p0 m v3 = some r
 have e1 := @m_spec_l4Text_L1.eq_2
 unfold m_spec_l4Text at h
 exact sgo 35 [.tmp 2] Tryz.func392
instance : HasC 392 (type_of% @c392) := ⟨@c392⟩

theorem c331 (p0 r) (h : m_spec_IsKey p0 = some r) : Sc 331 [aX (M.Key.en p0)] [rB r] := by
 unfold m_spec_IsKey at h
 exact sgo 36 [.tmp 2] Tryz.func331
instance : HasC 331 (type_of% @c331) := ⟨@c331⟩

theorem c333 (p0 r) (h : m_spec_IsRecord p0 = some r) : Sc 333 [aX (M.Record.en p0)] [rB r] := by
 have i1 := inv fun m s => ∃ v3 : Int, (s.t 1 = vP 1 1 0 ∧ s.t 3 = vI v3 ∧ s.h 1 = (1, oX 225 (M.Record.en p0))) ∧ m_spec_IsRecord_L1 p0 m v3 = some r
 have e1 := @m_spec_IsRecord_L1.eq_2
 unfold m_spec_IsRecord at h
 exact sgo 53 [.tmp 2] Tryz.func333
instance : HasC 333 (type_of% @c333) := ⟨@c333⟩

theorem c393 (p0 p1 r) (h : m_spec_l4Sign p0 p1 = some r) : Sc 393 [aB p0, aB p1] [rI r] := by
 unfold m_spec_l4Sign at h
 exact sgo 7 [.tmp 4] Tryz.func393
instance : HasC 393 (type_of% @c393) := ⟨@c393⟩

theorem c334 (p0 p1 r) (h : m_spec_CompareKeys p0 p1 = some r) : Sc 334 [aX (M.Key.en p0), aX (M.Key.en p1)] [rI r] := by
 unfold m_spec_CompareKeys at h
 exact sgo 46 [.tmp 4] Tryz.func334
instance : HasC 334 (type_of% @c334) := ⟨@c334⟩

theorem c249 (p0 r) (h : m_spec_IsStore p0 = some r) : Sc 249 [aX (M.Store.en p0)] [rB r] := by
 have i1 := inv fun m s => ∃ v3 : Int, (s.t 1 = vP 1 1 0 ∧ s.t 3 = vI v3 ∧ s.h 1 = (1, oX 36 (M.Store.en p0))) ∧ m_spec_IsStore_L1 p0 m v3 = some r
 have e1 := @m_spec_IsStore_L1.eq_2
 unfold m_spec_IsStore at h
 exact sgo 64 [.tmp 2] Tryz.func249
instance : HasC 249 (type_of% @c249) := ⟨@c249⟩

theorem c229 (p0 p1 r) (h : m_spec_FindStore p0 p1 = some r) : Sc 229 [aX (M.Database.en p0), aS p1] [rI r] := by
 have i1 := inv fun m s => ∃ v5 : Int, (s.t 1 = vS p1 ∧ s.t 2 = vP 2 1 0 ∧ s.t 5 = vI v5 ∧ s.h 2 = (1, oX 30 (M.Database.en p0))) ∧ m_spec_FindStore_L1 p0 p1 m v5 = some r
 have e1 := @m_spec_FindStore_L1.eq_2
 unfold m_spec_FindStore at h
 exact sgo 22 [.tmp 4] Tryz.func229
instance : HasC 229 (type_of% @c229) := ⟨@c229⟩

theorem c134 (p0 p1 r) (h : m_spec_GetField p0 p1 = some r) : Sc 134 [aX (M.Record.en p0), aS p1] [rI r.1, rB r.2] := by
 have i1 := inv fun m s => ∃ v6 : Int, (s.t 1 = vS p1 ∧ s.t 2 = vP 2 1 0 ∧ s.t 6 = vI v6 ∧ s.h 2 = (1, oX 225 (M.Record.en p0))) ∧ m_spec_GetField_L1 p0 p1 m v6 = some r
 have e1 := @m_spec_GetField_L1.eq_2
 unfold m_spec_GetField at h
 exact sgo 28 [.tmp 4, .tmp 5] Tryz.func134
instance : HasC 134 (type_of% @c134) := ⟨@c134⟩

theorem c394 (p0 p1 p2 r) (h : m_spec_l7Less p0 p1 p2 = some r) : Sc 394 [aX (M.Item.en p0), aX (M.Item.en p1), aS p2] [rB r] := by
 unfold m_spec_l7Less at h
 exact sgo 41 [.tmp 6] Tryz.func394
instance : HasC 394 (type_of% @c394) := ⟨@c394⟩

theorem c335 (p0 p1 r) (h : m_spec_IndexOn p0 p1 = some r) : Sc 335 [aX (M.Store.en p0), aS p1] [rW 315 4 M.Item.en r] := by
  unfold m_spec_IndexOn at h
  simp only [EN]
  refine sgn 72 [.tmp 4] Tryz.func335 fun base wd => ?_
  refine sq (rn ?_)
  refine an (sq (rn ?_))
  refine an (sq (sq ?_))
  refine cu (fun s => s.t 1 = vS p1 ∧ s.t 2 = vP 2 1 0 ∧ s.t 5 = vR 100011 1 ∧ s.h 2 = (1, oX 36 (M.Store.en p0)) ∧ s.h 100011 = (1, oW 315 4 M.Item.en ([] : List M.Item)) ∧ True) ?_
  rintro s1 ⟨f2, f3, f4, f5, f6, _⟩
  refine rn ?_
  refine an (bk ?_)
  refine SW_gho ((Gho.ren_t (i := 5) (K := 7050000) (j := 100011) (by simp +decide only [F, reduceIte, Nat.reduceAdd, Bool.not_true, Bool.not_false, EN, *, -h]; rfl) (by simp +decide only [F, reduceIte, Nat.reduceAdd, Bool.not_true, Bool.not_false, EN, *, -h]; rfl))) ?_
  refine SW_loopG (fun m s => ∃ v6 : Int, ∃ r50000 : List M.Item, ∃ u50000 : Nat, s.t 1 = vS p1 ∧ s.t 2 = vP 2 1 0 ∧ s.t 5 = vR 7050000 u50000 ∧ s.t 6 = vI v6 ∧ s.h 2 = (1, oX 36 (M.Store.en p0)) ∧ s.h 7050000 = (u50000, oW 315 4 M.Item.en r50000) ∧ m_spec_IndexOn_L1 p0 p1 m v6 r50000 = some r) fuel ?_ ?_
  · refine ⟨0, ([] : List M.Item), ((s1.h 7050000).1 + 1), ?_, ?_, ?_, ?_, ?_, ?_, h⟩
    all_goals simp +decide only [F, reduceIte, Nat.reduceAdd, Bool.not_true, Bool.not_false, EN, *, -h]
  rintro mL1 s7 ⟨v6, r50000, u50000, f8, f9, f10, f11, f12, f13, h⟩
  rcases mL1 with _ | mL1
  · exact absurd h (by simp [m_spec_IndexOn_L1])
  simp only [m_spec_IndexOn_L1] at h
  refine sq (sq (rn ?_))
  refine an ?_
  rcases bcas (decide (v6 < (List.length p0.Items : Int))) with b14 | b14
  · replace h := ite_f b14 h
    refine cf (xt (aft_cx (aft_ix (aft_x (an (sq (rn ?_)))))))
    refine an (rt ?_)
    cases h
    simp [Ret, TB, EN, *]
  replace h := ite_t b14 h
  refine ct (sk (an (sq (bk (sq (sq ?_))))))
  obtain ⟨x15, h16, h⟩ := bind_some h
  obtain ⟨q17, q18, q19⟩ := idx_some h16
  obtain ⟨x20, h21, h⟩ := bind_some h
  refine rn1 (c134 _ _ _ h21) ?_
  refine an (sq (rn ?_))
  refine an ?_
  rcases bcase (!x20.2) with b22 | b22
  · replace h := ite_t b22 h
    refine ct (xt (aft_cx (aft_x (an (rn ?_)))))
    refine aft_i ⟨_, (Gho.ren_t (i := 5) (K := 7050000) (j := 7050000) (by simp +decide only [F, reduceIte, Nat.reduceAdd, Bool.not_true, Bool.not_false, EN, *, -h]; rfl) (by simp +decide only [F, reduceIte, Nat.reduceAdd, Bool.not_true, Bool.not_false, EN, *, -h]; rfl)), mL1, by omega, (IntKind.i64.wrap (v6 + 1)), r50000, (u50000 + 1), ?_, ?_, ?_, ?_, ?_, ?_, h⟩
    all_goals simp +decide only [F, reduceIte, Nat.reduceAdd, Bool.not_true, Bool.not_false, EN, *, -h]
  replace h := ite_f b22 h
  refine cf (sk (an (sq (rn ?_))))
  refine an (sq (bk ?_))
  obtain ⟨k24, e25, h⟩ := absk (f := fun kk => m_spec_IndexOn_L2 p1 r50000 x15 kk fuel (List.length r50000 : Int)) h
  refine SW_loop (fun m s => ∃ v9_L2 : Int, s.t 1 = vS p1 ∧ s.t 2 = vP 2 1 0 ∧ s.t 5 = vR 7050000 u50000 ∧ s.t 6 = vI v6 ∧ s.t 9 = vI v9_L2 ∧ s.h 2 = (1, oX 36 (M.Store.en p0)) ∧ s.h 7050000 = (u50000, oW 315 4 M.Item.en r50000) ∧ m_spec_IndexOn_L2 p1 r50000 x15 k24 m v9_L2 = some r) fuel ?_ ?_
  · refine ⟨(List.length r50000 : Int), ?_, ?_, ?_, ?_, ?_, ?_, ?_, h⟩
    all_goals simp +decide only [F, reduceIte, Nat.reduceAdd, Bool.not_true, Bool.not_false, EN, *, -h]
  rintro mL2 s23 ⟨v9_L2, f26, f27, f28, f29, f30, f31, f32, h⟩
  rcases mL2 with _ | mL2
  · exact absurd h (by simp [m_spec_IndexOn_L2])
  simp only [m_spec_IndexOn_L2] at h
  refine sq (sq ?_)
  rcases bcas (decide (v9_L2 > 0)) with b33 | b33
  · replace h := ite_f b33 h
    refine rd mixed ?_
    refine an (cf (xt (aft_cx ?_)))
    subst e25
    refine aft_ix (aft_x (an (sq ?_)))
    obtain ⟨x79, h80, h⟩ := bind_some h
    obtain ⟨x81, h82, h⟩ := bind_some h
    apply SW_run
    · simp +decide only [E, reduceIte, Nat.reduceAdd, Nat.reduceMul, Bool.not_true, Bool.not_false, ← List.map_take, ← List.map_drop, L, ti34, ti315, M.Item.en, EN, b14, q17, q18, q19, b22, f26, f27, f28, f29, f30, f31, f32, b33]
      refine ⟨by first | exact slcHi_p h80 | exact (slcHi_p h80).2 | exact (slcHi_p h80).2.2, ?_⟩
      try simp +decide only [E, reduceIte, Nat.reduceAdd, Nat.reduceMul, Bool.not_true, Bool.not_false, ← List.map_take, ← List.map_drop, L, ti34, ti315, M.Item.en, EN, b14, q17, q18, q19, b22, f26, f27, f28, f29, f30, f31, f32, b33]
      refine ⟨by (have hb := app_some h82); simp [M.Item.en, List.length_append, strBytes_len, ← List.map_take, ← List.map_drop, -List.map_take, -List.map_drop] at hb ⊢ <;> omega, ?_⟩
      try simp +decide only [E, reduceIte, Nat.reduceAdd, Nat.reduceMul, Bool.not_true, Bool.not_false, ← List.map_take, ← List.map_drop, L, ti34, ti315, M.Item.en, EN, b14, q17, q18, q19, b22, f26, f27, f28, f29, f30, f31, f32, b33]
      exact Is.mk _
    refine an (sq ?_)
    refine cu (fun s => s.t 1 = vS p1 ∧ s.t 2 = vP 2 1 0 ∧ s.t 5 = vR 7050000 u50000 ∧ s.t 6 = vI v6 ∧ s.t 9 = vI v9_L2 ∧ s.t 10 = vR 100052 (((s23.h 100052).1 + 1) + 1) ∧ s.h 2 = (1, oX 36 (M.Store.en p0)) ∧ s.h 100052 = ((((s23.h 100052).1 + 1) + 1), oW 315 4 M.Item.en (List.take v9_L2.toNat r50000)) ∧ s.h 7050000 = (u50000, .row 315 4 (opqTo 4 0 v9_L2.toNat (List.map M.Item.en r50000)) true) ∧ True) ?_
    rintro s83 ⟨f84, f85, f86, f87, f88, f89, f90, f91, f92, _⟩
    obtain ⟨x93, h94, h⟩ := bind_some h
    obtain ⟨x95, h96, h⟩ := bind_some h
    refine rn2 (c296 _ _ h94) h96 ?_
    refine an ?_
    refine cu (fun s => s.t 1 = vS p1 ∧ s.t 2 = vP 2 1 0 ∧ s.t 5 = vR 7050000 u50000 ∧ s.t 6 = vI v6 ∧ s.t 9 = vI v9_L2 ∧ s.t 10 = vR 100052 ((((s23.h 100052).1 + 1) + 1) + 1) ∧ s.h 2 = (1, oX 36 (M.Store.en p0)) ∧ s.h 100052 = (((((s23.h 100052).1 + 1) + 1) + 1), oW 315 4 M.Item.en ((List.take v9_L2.toNat r50000) ++ [x93])) ∧ s.h 7050000 = (u50000, .row 315 4 (opqTo 4 0 v9_L2.toNat (List.map M.Item.en r50000)) true) ∧ True) ?_
    rintro s97 ⟨f98, f99, f100, f101, f102, f103, f104, f105, f106, _⟩
    obtain ⟨x107, h108, h⟩ := bind_some h
    apply SW_run
    · simp +decide only [E, reduceIte, Nat.reduceAdd, Nat.reduceMul, Bool.not_true, Bool.not_false, ← List.map_take, ← List.map_drop, L, ti34, ti315, M.Item.en, EN, b14, q17, q18, q19, b22, b33, f98, f99, f100, f101, f102, f103, f104, f105, f106]
      refine ⟨by first | exact opq_ge (slcHi_p h80).1 | exact (opq_ge (slcHi_p h80).1).2 | exact (opq_ge (slcHi_p h80).1).2.2, ?_⟩
      try simp +decide only [E, reduceIte, Nat.reduceAdd, Nat.reduceMul, Bool.not_true, Bool.not_false, ← List.map_take, ← List.map_drop, L, ti34, ti315, M.Item.en, EN, b14, q17, q18, q19, b22, b33, f98, f99, f100, f101, f102, f103, f104, f105, f106]
      refine ⟨by (have hb := app_some h108); simp [M.Item.en, List.length_append, strBytes_len, ← List.map_take, ← List.map_drop, -List.map_take, -List.map_drop] at hb ⊢ <;> omega, ?_⟩
      try simp +decide only [E, reduceIte, Nat.reduceAdd, Nat.reduceMul, Bool.not_true, Bool.not_false, ← List.map_take, ← List.map_drop, L, ti34, ti315, M.Item.en, EN, b14, q17, q18, q19, b22, b33, f98, f99, f100, f101, f102, f103, f104, f105, f106]
      exact Is.mk _
    refine ab (an ?_)
    refine cu (fun s => s.t 1 = vS p1 ∧ s.t 2 = vP 2 1 0 ∧ s.t 5 = vR 100052 (((((s23.h 100052).1 + 1) + 1) + 1) + 1) ∧ s.t 6 = vI v6 ∧ s.h 2 = (1, oX 36 (M.Store.en p0)) ∧ s.h 100052 = ((((((s23.h 100052).1 + 1) + 1) + 1) + 1), oW 315 4 M.Item.en (((List.take v9_L2.toNat r50000) ++ [x93]) ++ (List.drop v9_L2.toNat r50000))) ∧ True) ?_
    rintro s109 ⟨f110, f111, f112, f113, f114, f115, _⟩
    refine rn ?_
    refine aft_i ⟨_, (Gho.ren_t (i := 5) (K := 7050000) (j := 100052) (by simp +decide only [F, reduceIte, Nat.reduceAdd, Bool.not_true, Bool.not_false, EN, *, -h]; rfl) (by simp +decide only [F, reduceIte, Nat.reduceAdd, Bool.not_true, Bool.not_false, EN, *, -h]; rfl)), mL1, by omega, (IntKind.i64.wrap (v6 + 1)), (((List.take v9_L2.toNat r50000) ++ [x93]) ++ (List.drop v9_L2.toNat r50000)), ((s109.h 7050000).1 + 1), ?_, ?_, ?_, ?_, ?_, ?_, h⟩
    all_goals simp +decide only [F, reduceIte, Nat.reduceAdd, Bool.not_true, Bool.not_false, EN, *, -h]
  replace h := ite_t b33 h
  obtain ⟨x34, h35, h⟩ := bind_some h
  obtain ⟨q36, q37, q38⟩ := idx_some h35
  obtain ⟨x39, h40, h⟩ := bind_some h
  refine rd1 mixed (c394 _ _ _ _ h40) ?_
  refine an ?_
  rcases bcase x39 with b41 | b41
  · replace h := ite_t b41 h
    refine ct (sk (an (bk (rn ?_))))
    refine ab ?_
    refine aft_i ⟨mL2, by omega, (IntKind.i64.wrap (v9_L2 - 1)), ?_, ?_, ?_, ?_, ?_, ?_, ?_, h⟩
    all_goals simp +decide only [F, reduceIte, Nat.reduceAdd, Bool.not_true, Bool.not_false, EN, *, -h]
  replace h := ite_f b41 h
  refine cf (xt (aft_cx ?_))
  subst e25
  refine aft_ix (aft_x (an (sq ?_)))
  obtain ⟨x42, h43, h⟩ := bind_some h
  obtain ⟨x44, h45, h⟩ := bind_some h
  apply SW_run
  · simp +decide only [E, reduceIte, Nat.reduceAdd, Nat.reduceMul, Bool.not_true, Bool.not_false, ← List.map_take, ← List.map_drop, L, ti34, ti315, M.Item.en, EN, b14, q17, q18, q19, b22, f26, f27, f28, f29, f30, f31, f32, b33, q36, q37, q38, b41]
    refine ⟨by first | exact slcHi_p h43 | exact (slcHi_p h43).2 | exact (slcHi_p h43).2.2, ?_⟩
    try simp +decide only [E, reduceIte, Nat.reduceAdd, Nat.reduceMul, Bool.not_true, Bool.not_false, ← List.map_take, ← List.map_drop, L, ti34, ti315, M.Item.en, EN, b14, q17, q18, q19, b22, f26, f27, f28, f29, f30, f31, f32, b33, q36, q37, q38, b41]
    refine ⟨by (have hb := app_some h45); simp [M.Item.en, List.length_append, strBytes_len, ← List.map_take, ← List.map_drop, -List.map_take, -List.map_drop] at hb ⊢ <;> omega, ?_⟩
    try simp +decide only [E, reduceIte, Nat.reduceAdd, Nat.reduceMul, Bool.not_true, Bool.not_false, ← List.map_take, ← List.map_drop, L, ti34, ti315, M.Item.en, EN, b14, q17, q18, q19, b22, f26, f27, f28, f29, f30, f31, f32, b33, q36, q37, q38, b41]
    exact Is.mk _
  refine an (sq ?_)
  refine cu (fun s => s.t 1 = vS p1 ∧ s.t 2 = vP 2 1 0 ∧ s.t 5 = vR 7050000 u50000 ∧ s.t 6 = vI v6 ∧ s.t 9 = vI v9_L2 ∧ s.t 10 = vR 100052 (((s23.h 100052).1 + 1) + 1) ∧ s.h 2 = (1, oX 36 (M.Store.en p0)) ∧ s.h 100052 = ((((s23.h 100052).1 + 1) + 1), oW 315 4 M.Item.en (List.take v9_L2.toNat r50000)) ∧ s.h 7050000 = (u50000, .row 315 4 (opqTo 4 0 v9_L2.toNat (List.map M.Item.en r50000)) true) ∧ True) ?_
  rintro s46 ⟨f47, f48, f49, f50, f51, f52, f53, f54, f55, _⟩
  obtain ⟨x56, h57, h⟩ := bind_some h
  obtain ⟨x58, h59, h⟩ := bind_some h
  refine rn2 (c296 _ _ h57) h59 ?_
  refine an ?_
  refine cu (fun s => s.t 1 = vS p1 ∧ s.t 2 = vP 2 1 0 ∧ s.t 5 = vR 7050000 u50000 ∧ s.t 6 = vI v6 ∧ s.t 9 = vI v9_L2 ∧ s.t 10 = vR 100052 ((((s23.h 100052).1 + 1) + 1) + 1) ∧ s.h 2 = (1, oX 36 (M.Store.en p0)) ∧ s.h 100052 = (((((s23.h 100052).1 + 1) + 1) + 1), oW 315 4 M.Item.en ((List.take v9_L2.toNat r50000) ++ [x56])) ∧ s.h 7050000 = (u50000, .row 315 4 (opqTo 4 0 v9_L2.toNat (List.map M.Item.en r50000)) true) ∧ True) ?_
  rintro s60 ⟨f61, f62, f63, f64, f65, f66, f67, f68, f69, _⟩
  obtain ⟨x70, h71, h⟩ := bind_some h
  apply SW_run
  · simp +decide only [E, reduceIte, Nat.reduceAdd, Nat.reduceMul, Bool.not_true, Bool.not_false, ← List.map_take, ← List.map_drop, L, ti34, ti315, M.Item.en, EN, b14, q17, q18, q19, b22, b33, q36, q37, q38, b41, f61, f62, f63, f64, f65, f66, f67, f68, f69]
    refine ⟨by first | exact opq_ge (slcHi_p h43).1 | exact (opq_ge (slcHi_p h43).1).2 | exact (opq_ge (slcHi_p h43).1).2.2, ?_⟩
    try simp +decide only [E, reduceIte, Nat.reduceAdd, Nat.reduceMul, Bool.not_true, Bool.not_false, ← List.map_take, ← List.map_drop, L, ti34, ti315, M.Item.en, EN, b14, q17, q18, q19, b22, b33, q36, q37, q38, b41, f61, f62, f63, f64, f65, f66, f67, f68, f69]
    refine ⟨by (have hb := app_some h71); simp [M.Item.en, List.length_append, strBytes_len, ← List.map_take, ← List.map_drop, -List.map_take, -List.map_drop] at hb ⊢ <;> omega, ?_⟩
    try simp +decide only [E, reduceIte, Nat.reduceAdd, Nat.reduceMul, Bool.not_true, Bool.not_false, ← List.map_take, ← List.map_drop, L, ti34, ti315, M.Item.en, EN, b14, q17, q18, q19, b22, b33, q36, q37, q38, b41, f61, f62, f63, f64, f65, f66, f67, f68, f69]
    exact Is.mk _
  refine ab (an ?_)
  refine cu (fun s => s.t 1 = vS p1 ∧ s.t 2 = vP 2 1 0 ∧ s.t 5 = vR 100052 (((((s23.h 100052).1 + 1) + 1) + 1) + 1) ∧ s.t 6 = vI v6 ∧ s.h 2 = (1, oX 36 (M.Store.en p0)) ∧ s.h 100052 = ((((((s23.h 100052).1 + 1) + 1) + 1) + 1), oW 315 4 M.Item.en (((List.take v9_L2.toNat r50000) ++ [x56]) ++ (List.drop v9_L2.toNat r50000))) ∧ True) ?_
  rintro s72 ⟨f73, f74, f75, f76, f77, f78, _⟩
  refine rn ?_
  refine aft_i ⟨_, (Gho.ren_t (i := 5) (K := 7050000) (j := 100052) (by simp +decide only [F, reduceIte, Nat.reduceAdd, Bool.not_true, Bool.not_false, EN, *, -h]; rfl) (by simp +decide only [F, reduceIte, Nat.reduceAdd, Bool.not_true, Bool.not_false, EN, *, -h]; rfl)), mL1, by omega, (IntKind.i64.wrap (v6 + 1)), (((List.take v9_L2.toNat r50000) ++ [x56]) ++ (List.drop v9_L2.toNat r50000)), ((s72.h 7050000).1 + 1), ?_, ?_, ?_, ?_, ?_, ?_, h⟩
  all_goals simp +decide only [F, reduceIte, Nat.reduceAdd, Bool.not_true, Bool.not_false, EN, *, -h]
instance : HasC 335 (type_of% @c335) := ⟨@c335⟩

theorem c250 (p0 p1 r) (h : m_spec_UniqueFault p0 p1 = some r) : Sc 250 [aX (M.Store.en p0), aS p1] [(true, M.Key.rs r.1), (true, M.Key.rs r.2.1), rB r.2.2] := by
 have i1 := fun (x1 : (List M.Item)) => inv fun m s => ∃ v8 : Int, (s.t 1 = vS p1 ∧ s.t 4 = vP 4 1 0 ∧ s.t 5 = vP 5 1 0 ∧ s.t 7 = vR 100015 1 ∧ s.t 8 = vI v8 ∧ s.h 4 = (1, oB 259 [cI 0, cI 0, cS (⟨#[]⟩ : ByteArray)]) ∧ s.h 5 = (1, oB 259 [cI 0, cI 0, cS (⟨#[]⟩ : ByteArray)]) ∧ s.h 100015 = (1, oW 315 4 M.Item.en x1)) ∧ m_spec_UniqueFault_L1 p1 x1 m v8 = some r
 have e1 := @m_spec_UniqueFault_L1.eq_2
 unfold m_spec_UniqueFault at h
 exact sgo 59 [.cell 4 259, .cell 5 259, .tmp 6] Tryz.func250
instance : HasC 250 (type_of% @c250) := ⟨@c250⟩

theorem c148 (p0 r) (h : m_spec_IsDatabase p0 = some r) : Sc 148 [aX (M.Database.en p0)] [rB r] := by
 have i1 := inv fun m s => ∃ v3 : Int, (s.t 1 = vP 1 1 0 ∧ s.t 3 = vI v3 ∧ s.h 1 = (1, oX 30 (M.Database.en p0))) ∧ m_spec_IsDatabase_L1 p0 m v3 = some r
 have e1 := @m_spec_IsDatabase_L1.eq_2
 have i2 := inv fun m s => ∃ v4 : Int, (s.t 1 = vP 1 1 0 ∧ s.t 4 = vI v4 ∧ s.h 1 = (1, oX 30 (M.Database.en p0))) ∧ m_spec_IsDatabase_L2 p0 m v4 = some r
 have e2 := @m_spec_IsDatabase_L2.eq_2
 have i3 := fun (v4 : Int) (x26 : M.IndexDef) (k46 : Int → Option Bool) => inv fun m s => ∃ v9_L3 : Int, (s.t 1 = vP 1 1 0 ∧ s.t 4 = vI v4 ∧ s.t 9 = vI v9_L3 ∧ s.h 1 = (1, oX 30 (M.Database.en p0))) ∧ m_spec_IsDatabase_L3 p0 v4 x26 k46 m v9_L3 = some r
 have e3 := @m_spec_IsDatabase_L3.eq_2
 unfold m_spec_IsDatabase at h
 exact sgo 124 [.tmp 2] Tryz.func148
instance : HasC 148 (type_of% @c148) := ⟨@c148⟩

theorem c247 (p0 r) (h : m_spec_IsQueuedWrite p0 = some r) : Sc 247 [aX (M.Write.en p0)] [rB r] := by
 unfold m_spec_IsQueuedWrite at h
 exact sgo 26 [.tmp 2] Tryz.func247
instance : HasC 247 (type_of% @c247) := ⟨@c247⟩

theorem c144 (p0 r) (h : m_spec_IsOutbox p0 = some r) : Sc 144 [aX (M.Outbox.en p0)] [rB r] := by
 have i1 := inv fun m s => ∃ v4 : Int, (s.t 1 = vP 1 1 0 ∧ s.t 3 = vI (List.length p0.Writes : Int) ∧ s.t 4 = vI v4 ∧ s.h 1 = (1, oX 39 (M.Outbox.en p0))) ∧ m_spec_IsOutbox_L1 p0 m v4 = some r
 have e1 := @m_spec_IsOutbox_L1.eq_2
 unfold m_spec_IsOutbox at h
 exact sgo 60 [.tmp 2] Tryz.func144
instance : HasC 144 (type_of% @c144) := ⟨@c144⟩

theorem c149 (p0 r) (h : m_spec_IsReplica p0 = some r) : Sc 149 [aX (M.Replica.en p0)] [rB r] := by
 unfold m_spec_IsReplica at h
 exact sgo 23 [.tmp 2] Tryz.func149
instance : HasC 149 (type_of% @c149) := ⟨@c149⟩

theorem c336 (p0 p1 r) (h : m_spec_StoredSize p0 p1 = some r) : Sc 336 [aX (M.Response.en p0), aB p1] [rI r] := by
 unfold m_spec_StoredSize at h
 exact sgo 10 [.tmp 4] Tryz.func336
instance : HasC 336 (type_of% @c336) := ⟨@c336⟩

theorem c251 (p0 r) (h : m_spec_SizeCaches p0 = some r) : Sc 251 [aX (M.CacheSet.en p0)] [rI r] := by
 have i1 := inv fun m s => ∃ v3 : Int, ∃ v4 : Int, (s.t 1 = vP 1 1 0 ∧ s.t 3 = vI v3 ∧ s.t 4 = vI v4 ∧ s.h 1 = (1, oX 26 (M.CacheSet.en p0))) ∧ m_spec_SizeCaches_L1 p0 m v3 v4 = some r
 have e1 := @m_spec_SizeCaches_L1.eq_2
 have i2 := fun (v4 : Int) (k8 : Int → Int → Option Int) => inv fun m s => ∃ v3_L2 : Int, ∃ v5_L2 : Int, (s.t 1 = vP 1 1 0 ∧ s.t 3 = vI v3_L2 ∧ s.t 4 = vI v4 ∧ s.t 5 = vI v5_L2 ∧ s.h 1 = (1, oX 26 (M.CacheSet.en p0))) ∧ m_spec_SizeCaches_L2 p0 v4 k8 m v3_L2 v5_L2 = some r
 have e2 := @m_spec_SizeCaches_L2.eq_2
 unfold m_spec_SizeCaches at h
 exact sgo 43 [.tmp 2] Tryz.func251
instance : HasC 251 (type_of% @c251) := ⟨@c251⟩

theorem c338 (p0 r) (h : m_spec_EncodeKey p0 = some r) : Sc 338 [aX (M.Key.en p0)] [rW 5 1 enB r] := by
  unfold m_spec_EncodeKey at h
  simp only [EN]
  refine sgn 38 [.tmp 2] Tryz.func338 fun base wd => ?_
  refine sq (rn ?_)
  refine an (sq (sq ?_))
  obtain ⟨x1, h2, h⟩ := bind_some h
  refine rn1 (c331 _ _ h2) ?_
  refine an ?_
  rcases bcase (!x1) with b3 | b3
  · replace h := ite_t b3 h
    refine ct (sq (rn ?_))
    refine an (rt ?_)
    cases h
    simp [Ret, TB, EN, *]
  replace h := ite_f b3 h
  refine cf (sk (an (sq (rn ?_))))
  refine an (sq (sq ?_))
  refine cu (fun s => s.t 1 = vP 1 1 0 ∧ s.t 3 = vR 100012 1 ∧ s.h 1 = (1, oX 259 (M.Key.en p0)) ∧ s.h 100012 = (1, oW 5 1 enB ([(IntKind.u8.wrap p0.Kind)])) ∧ True) ?_
  rintro s4 ⟨f5, f6, f7, f8, _⟩
  refine rn ?_
  refine an (bk ?_)
  refine SW_loop (fun m s => ∃ v4 : Int, ∃ r12 : List Int, ∃ u12 : Nat, s.t 1 = vP 1 1 0 ∧ s.t 3 = vR 100012 u12 ∧ s.t 4 = vI v4 ∧ s.h 1 = (1, oX 259 (M.Key.en p0)) ∧ s.h 100012 = (u12, oW 5 1 enB r12) ∧ m_spec_EncodeKey_L1 p0 m v4 r12 = some r) fuel ?_ ?_
  · refine ⟨5, ([(IntKind.u8.wrap p0.Kind)]), 1, ?_, ?_, ?_, ?_, ?_, h⟩
    all_goals simp +decide only [F, reduceIte, Nat.reduceAdd, Bool.not_true, Bool.not_false, EN, *, -h]
  rintro mL1 s9 ⟨v4, r12, u12, f10, f11, f12, f13, f14, h⟩
  rcases mL1 with _ | mL1
  · exact absurd h (by simp [m_spec_EncodeKey_L1])
  simp only [m_spec_EncodeKey_L1] at h
  refine sq (sq ?_)
  rcases bcas (decide (v4 ≥ 0)) with b15 | b15
  · replace h := ite_f b15 h
    refine rn ?_
    refine an (cf (xt (aft_cx (aft_ix (aft_x (an (sq ?_)))))))
    obtain ⟨x28, h29, h⟩ := bind_some h
    refine rn1 h29 ?_
    refine an (rt ?_)
    cases h
    simp [Ret, TB, EN, *]
  replace h := ite_t b15 h
  refine rn ?_
  refine an ?_
  rcases bcas (p0.Kind != 2) with b16 | b16
  · replace h := ite_f b16 h
    refine cf (xt (aft_cx (aft_ix (aft_x (an (sq ?_))))))
    obtain ⟨x26, h27, h⟩ := bind_some h
    refine rn1 h27 ?_
    refine an (rt ?_)
    cases h
    simp [Ret, TB, EN, *]
  replace h := ite_t b16 h
  refine ct (sk (an (sq (bk ?_))))
  rcases bcas (decide (0 ≤ (IntKind.i64.wrap (8 * v4)))) with b17 | b17
  · replace h := ite_f b17 h
    cases h
  replace h := ite_t b17 h
  obtain ⟨x18, h19, h⟩ := bind_some h
  apply SW_run
  · simp +decide only [E, reduceIte, Nat.reduceAdd, Nat.reduceMul, Bool.not_true, Bool.not_false, shr_ok, L, ti3, ti5, ti31, ti259, enB, EN, b3, f10, f11, f12, f13, f14, b15, b16, b17]
    refine ⟨by (have hb := app_some h19); simp [enB, List.length_append, strBytes_len] at hb ⊢ <;> omega, ?_⟩
    try simp +decide only [E, reduceIte, Nat.reduceAdd, Nat.reduceMul, Bool.not_true, Bool.not_false, shr_ok, L, ti3, ti5, ti31, ti259, enB, EN, b3, f10, f11, f12, f13, f14, b15, b16, b17]
    exact Is.mk _
  refine ab (an ?_)
  refine cu (fun s => s.t 1 = vP 1 1 0 ∧ s.t 3 = vR 100012 (u12 + 1) ∧ s.t 4 = vI v4 ∧ s.h 1 = (1, oX 259 (M.Key.en p0)) ∧ s.h 100012 = ((u12 + 1), oW 5 1 enB (r12 ++ [(IntKind.u8.wrap (IntKind.i64.wrap (BitVec.ofInt (IntKind.i64.bits) (Int.fdiv (IntKind.i64.wrap (p0.N + 1000000000000)) (2 ^ (min (IntKind.i64.wrap (8 * v4)).toNat IntKind.i64.bits))) &&& BitVec.ofInt (IntKind.i64.bits) 255).toNat))])) ∧ True) ?_
  rintro s20 ⟨f21, f22, f23, f24, f25, _⟩
  refine rn ?_
  refine aft_i ⟨mL1, by omega, (IntKind.i64.wrap (v4 - 1)), (r12 ++ [(IntKind.u8.wrap (IntKind.i64.wrap (BitVec.ofInt (IntKind.i64.bits) (Int.fdiv (IntKind.i64.wrap (p0.N + 1000000000000)) (2 ^ (min (IntKind.i64.wrap (8 * v4)).toNat IntKind.i64.bits))) &&& BitVec.ofInt (IntKind.i64.bits) 255).toNat))]), (u12 + 1), ?_, ?_, ?_, ?_, ?_, h⟩
  all_goals simp +decide only [F, reduceIte, Nat.reduceAdd, Bool.not_true, Bool.not_false, EN, *, -h]
instance : HasC 338 (type_of% @c338) := ⟨@c338⟩

end Go.Proofs.YtgemmnkhddlhpaaGreat.gen
