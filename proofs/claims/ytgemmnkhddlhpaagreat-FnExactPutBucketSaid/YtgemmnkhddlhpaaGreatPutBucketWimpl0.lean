/-
  Helper text: walks: each function's contract out of its model. No conditions beyond those of each contract.
-/
import Derived.Test.YtgemmnkhddlhpaaGreatPutBucketTi
namespace Go.Proofs.YtgemmnkhddlhpaaGreat.gen
open Go Go.Sh
set_option linter.unusedVariables false
set_option linter.unusedSimpArgs false
set_option maxRecDepth 20000
set_option maxHeartbeats 4000000
theorem c306 (p0 r) (h : m_impl_copyBytes p0 = some r) : Sc 306 [aL enB p0] [rW 5 1 enB r] := by
 unfold m_impl_copyBytes at h
 exact sgo 6 [.tmp 2] Tryz.func306
instance : HasC 306 (type_of% @c306) := ⟨@c306⟩

theorem c305 (p0 r) (h : m_impl_copyResponse p0 = some r) : Sc 305 [aX (M.Response.en p0)] [(true, M.Response.rs r)] := by
 unfold m_impl_copyResponse at h
 exact sgo 8 [.cell 2 345] Tryz.func305
instance : HasC 305 (type_of% @c305) := ⟨@c305⟩

theorem c214 (p0 r) (h : m_impl_copyCacheSet p0 = some r) : Sc 214 [aX (M.CacheSet.en p0)] [(true, M.CacheSet.rs r)] := by
 have i1 := invM [.b 3 0 7050100 297 2] fun m s => ∃ v13 : Int, ∃ r50100 : List M.Cache, ∃ u50100 : Nat, (s.t 2 = vP 2 1 0 ∧ s.t 3 = vP 3 1 0 ∧ s.t 11 = vL M.Cache.en p0.Caches ∧ s.t 12 = vI (List.length p0.Caches : Int) ∧ s.t 13 = vI v13 ∧ s.h 2 = (1, oB 26 [.nil]) ∧ s.h 3 = (1, oB 26 [.row 7050100 u50100]) ∧ s.h 7050100 = (u50100, oW 297 2 M.Cache.en r50100)) ∧ m_impl_copyCacheSet_L1 p0 m v13 r50100 = some r
 have e1 := @m_impl_copyCacheSet_L1.eq_2
 have i2 := fun (v13 : Int) (r50100 : List M.Cache) (x11 : M.Cache) (k17 : Int → List M.Cached → Option M.CacheSet) (s1 : St) (u50100 : Nat) => invM [.b 6 1 7050000 347 7] fun m s => ∃ v23_L2 : Int, ∃ r50000_L2 : List M.Cached, ∃ u50000_L2 : Nat, (s.t 2 = vP 2 1 0 ∧ s.t 3 = vP 3 1 0 ∧ s.t 6 = vP 6 ((s1.h 6).1 + 1) 0 ∧ s.t 11 = vL M.Cache.en p0.Caches ∧ s.t 12 = vI (List.length p0.Caches : Int) ∧ s.t 13 = vI v13 ∧ s.t 21 = vL M.Cached.en x11.Entries ∧ s.t 22 = vI (List.length x11.Entries : Int) ∧ s.t 23 = vI v23_L2 ∧ s.h 2 = (1, oB 26 [.nil]) ∧ s.h 3 = (1, oB 26 [.row 7050100 u50100]) ∧ s.h 6 = (((s1.h 6).1 + 1), oB 297 [cI x11.Version, .row 7050000 u50000_L2]) ∧ s.h 7050000 = (u50000_L2, oW 347 7 M.Cached.en r50000_L2) ∧ s.h 7050100 = (u50100, oW 297 2 M.Cache.en r50100)) ∧ m_impl_copyCacheSet_L2 x11 k17 m v23_L2 r50000_L2 = some r
 have e2 := @m_impl_copyCacheSet_L2.eq_2
 unfold m_impl_copyCacheSet at h
 exact sgo 46 [.cell 2 26] Tryz.func214
instance : HasC 214 (type_of% @c214) := ⟨@c214⟩

theorem c415 (p0 r) (h : m_impl_copyRecord p0 = some r) : Sc 415 [aX (M.Record.en p0)] [(true, M.Record.rs r)] := by
 unfold m_impl_copyRecord at h
 exact sgo 8 [.cell 2 225] Tryz.func415
instance : HasC 415 (type_of% @c415) := ⟨@c415⟩

theorem c375 (p0 r) (h : m_impl_copyItem p0 = some r) : Sc 375 [aX (M.Item.en p0)] [(true, M.Item.rs r)] := by
 unfold m_impl_copyItem at h
 exact sgo 9 [.cell 2 315] Tryz.func375
instance : HasC 375 (type_of% @c375) := ⟨@c375⟩

theorem c307 (p0 r) (h : m_impl_copyStore p0 = some r) : Sc 307 [aX (M.Store.en p0)] [(true, M.Store.rs r)] := by
 have i1 := invM [.b 3 1 7050000 315 4] fun m s => ∃ v14 : Int, ∃ r50000 : List M.Item, ∃ u50000 : Nat, (s.t 2 = vP 2 1 0 ∧ s.t 3 = vP 3 1 0 ∧ s.t 12 = vL M.Item.en p0.Items ∧ s.t 13 = vI (List.length p0.Items : Int) ∧ s.t 14 = vI v14 ∧ s.h 2 = (1, oB 36 [cS (⟨#[]⟩ : ByteArray), .nil, cI 0]) ∧ s.h 3 = (1, oB 36 [cS p0.Name, .row 7050000 u50000, cI p0.Auto]) ∧ s.h 7050000 = (u50000, oW 315 4 M.Item.en r50000)) ∧ m_impl_copyStore_L1 p0 m v14 r50000 = some r
 have e1 := @m_impl_copyStore_L1.eq_2
 unfold m_impl_copyStore at h
 exact sgo 27 [.cell 2 36] Tryz.func307
instance : HasC 307 (type_of% @c307) := ⟨@c307⟩

theorem c236 (p0 r) (h : m_impl_copyDatabase p0 = some r) : Sc 236 [aX (M.Database.en p0)] [(true, M.Database.rs r)] := by
 have i1 := invM [.b 3 2 7050000 36 3] fun m s => ∃ v18 : Int, ∃ r50000 : List M.Store, ∃ u50000 : Nat, (s.t 2 = vP 2 1 0 ∧ s.t 3 = vP 3 1 0 ∧ s.t 16 = vL M.Store.en p0.Stores ∧ s.t 17 = vI (List.length p0.Stores : Int) ∧ s.t 18 = vI v18 ∧ s.h 2 = (1, oB 30 [cS (⟨#[]⟩ : ByteArray), cI 0, .nil, .nil]) ∧ s.h 3 = (1, oB 30 [cS p0.Name, cI p0.Version, .row 7050000 u50000, .row 100010 2]) ∧ s.h 100010 = (2, oW 337 2 M.IndexDef.en p0.Unique) ∧ s.h 7050000 = (u50000, oW 36 3 M.Store.en r50000)) ∧ m_impl_copyDatabase_L1 p0 m v18 r50000 = some r
 have e1 := @m_impl_copyDatabase_L1.eq_2
 unfold m_impl_copyDatabase at h
 exact sgo 31 [.cell 2 30] Tryz.func236
instance : HasC 236 (type_of% @c236) := ⟨@c236⟩

theorem c215 (p0 r) (h : m_impl_copyDisk p0 = some r) : Sc 215 [aX (M.Disk.en p0)] [(true, M.Disk.rs r)] := by
 unfold m_impl_copyDisk at h
 exact sgo 12 [.cell 2 33] Tryz.func215
instance : HasC 215 (type_of% @c215) := ⟨@c215⟩

theorem c376 (p0 r) (h : m_impl_copyOutbox p0 = some r) : Sc 376 [aX (M.Outbox.en p0)] [(true, M.Outbox.rs r)] := by
 unfold m_impl_copyOutbox at h
 exact sgo 9 [.cell 2 39] Tryz.func376
instance : HasC 376 (type_of% @c376) := ⟨@c376⟩

theorem c308 (p0 r) (h : m_impl_copySync p0 = some r) : Sc 308 [aX (M.Sync.en p0)] [(true, M.Sync.rs r)] := by
 unfold m_impl_copySync at h
 exact sgo 8 [.cell 2 41] Tryz.func308
instance : HasC 308 (type_of% @c308) := ⟨@c308⟩

theorem c216 (p0 r) (h : m_impl_copyReplica p0 = some r) : Sc 216 [aX (M.Replica.en p0)] [(true, M.Replica.rs r)] := by
 unfold m_impl_copyReplica at h
 exact sgo 12 [.cell 2 43] Tryz.func216
instance : HasC 216 (type_of% @c216) := ⟨@c216⟩

theorem c124 (p0 r) (h : m_impl_copyBucket p0 = some r) : Sc 124 [aX (M.Bucket.en p0)] [(true, M.Bucket.rs r)] := by
 unfold m_impl_copyBucket at h
 exact sgo 16 [.cell 2 45] Tryz.func124
instance : HasC 124 (type_of% @c124) := ⟨@c124⟩

theorem c122 (p0 r) (h : m_impl_copyStorage p0 = some r) : Sc 122 [aX (M.Storage.en p0)] [(true, M.Storage.rs r)] := by
 have i1 := invM [.b 3 0 7050000 45 24] fun m s => ∃ v10 : Int, ∃ r50000 : List M.Bucket, ∃ u50000 : Nat, (s.t 2 = vP 2 1 0 ∧ s.t 3 = vP 3 1 0 ∧ s.t 8 = vL M.Bucket.en p0.Buckets ∧ s.t 9 = vI (List.length p0.Buckets : Int) ∧ s.t 10 = vI v10 ∧ s.h 2 = (1, oB 69 [.nil]) ∧ s.h 3 = (1, oB 69 [.row 7050000 u50000]) ∧ s.h 7050000 = (u50000, oW 45 24 M.Bucket.en r50000)) ∧ m_impl_copyStorage_L1 p0 m v10 r50000 = some r
 have e1 := @m_impl_copyStorage_L1.eq_2
 unfold m_impl_copyStorage at h
 exact sgo 23 [.cell 2 69] Tryz.func122
instance : HasC 122 (type_of% @c122) := ⟨@c122⟩

theorem c213 (p0 c0 c1 r) (h : m_impl_FindBucket_1 p0 c0 c1 = some r) : Sc 213 [aX (M.Bucket.en p0), (false, [.ptr [.str c0]]), (false, [.ptr [.str c1]])] [rB r] := by
 unfold m_impl_FindBucket_1 at h
 exact sgo 15 [.tmp 4] Tryz.func213
instance : HasC 213 (type_of% @c213) := ⟨@c213⟩

theorem c212 (p0 : List M.Bucket) (p1 : M.Bucket → Option Bool) (f1_ : FuncId) (k1_ : List D) (hp1 : ∀ z0 r, p1 z0 = some r → SCalls Tryz.prog f1_ ((true, M.Bucket.en z0) ::  k1_.map fun c => (false, [c])) [(false, [.ro (.bool r)])]) (r : Int) (h : m_slices_IndexFunc_Bucket p0 p1 = some r) : Sc 212 [(false, [.sl (List.map M.Bucket.en p0)]), (false, [.fn f1_ k1_])] [rI r] := by
  unfold m_slices_IndexFunc_Bucket at h
  simp only [EN]
  refine sgn 19 [.tmp 4] Tryz.func212 fun base wd => ?_
  refine sq (rn ?_)
  refine an (sq (sq (rn ?_)))
  refine an (bk ?_)
  refine SW_loop (fun m s => ∃ v8 : Int, s.t 0 = vL M.Bucket.en p0 ∧ s.t 1 = .v false [.dat (.fn f1_ k1_)] ∧ s.t 7 = vI (List.length p0 : Int) ∧ s.t 8 = vI v8 ∧ m_slices_IndexFunc_Bucket_L1 p0 p1 m v8 = some r) fuel ?_ ?_
  · refine ⟨0, ?_, ?_, ?_, ?_, h⟩
    all_goals simp +decide only [F, reduceIte, Nat.reduceAdd, Bool.not_true, Bool.not_false, EN, *, -h]
  rintro mL1 s1 ⟨v8, f2, f3, f4, f5, h⟩
  rcases mL1 with _ | mL1
  · exact absurd h (by simp [m_slices_IndexFunc_Bucket_L1])
  simp only [m_slices_IndexFunc_Bucket_L1] at h
  refine sq (rn ?_)
  refine an (sq ?_)
  rcases bcas (decide (v8 < (List.length p0 : Int))) with b6 | b6
  · replace h := ite_f b6 h
    refine cf (xt (aft_cx (aft_ix (aft_x (an (sq (rn ?_)))))))
    refine an (rt ?_)
    cases h
    simp [Ret, TB, EN, *]
  replace h := ite_t b6 h
  refine ct (sk (an (sq (bk (sq (rn ?_))))))
  refine an (sq ?_)
  obtain ⟨x7, h8, h⟩ := bind_some h
  obtain ⟨q9, q10, q11⟩ := idx_some h8
  obtain ⟨x12, h13, h⟩ := bind_some h
  refine rn1 (hp1 x7 x12 h13) ?_
  refine an ?_
  rcases bcase x12 with b14 | b14
  · replace h := ite_t b14 h
    refine ct (sq (rn ?_))
    refine an (rt ?_)
    cases h
    simp [Ret, TB, EN, *]
  replace h := ite_f b14 h
  refine cf (sk (ab (an (rn ?_))))
  refine aft_i ⟨mL1, by omega, (IntKind.i64.wrap (v8 + 1)), ?_, ?_, ?_, ?_, h⟩
  all_goals simp +decide only [F, reduceIte, Nat.reduceAdd, Bool.not_true, Bool.not_false, EN, *, -h]
instance : HasC 212 (type_of% @c212) := ⟨@c212⟩

theorem c123 (p0 p1 p2 r) (h : m_impl_FindBucket p0 p1 p2 = some r) : Sc 123 [aX (M.Storage.en p0), aS p1, aS p2] [rI r] := by
  unfold m_impl_FindBucket at h
  simp only [EN]
  refine sgn 11 [.tmp 6] Tryz.func123 fun base wd => ?_
  refine sq (rn ?_)
  refine an (sq ?_)
  obtain ⟨x1, h2, h⟩ := bind_some h
  refine rn1 (c212 p0.Buckets (fun z0 => m_impl_FindBucket_1 z0 p1 p2) 213 [.ptr [.str p1], .ptr [.str p2]] (fun z0 r hr => c213 z0 p1 p2 r hr) x1 h2) ?_
  refine an (rt ?_)
  cases h
  simp [Ret, TB, EN, *]
instance : HasC 123 (type_of% @c123) := ⟨@c123⟩

theorem c125 (p0 p1 r) (h : m_impl_bucketBefore p0 p1 = some r) : Sc 125 [aX (M.Bucket.en p0), aX (M.Bucket.en p1)] [rB r] := by
 unfold m_impl_bucketBefore at h
 exact sgo 24 [.tmp 4] Tryz.func125
instance : HasC 125 (type_of% @c125) := ⟨@c125⟩

theorem c158 (p0 p1 p2 r) (h : m_impl_InRange p0 p1 p2 = some r) : Sc 158 [aI p0, aI p1, aI p2] [rB r] := by
 unfold m_impl_InRange at h
 exact sgo 15 [.tmp 6] Tryz.func158
instance : HasC 158 (type_of% @c158) := ⟨@c158⟩

theorem c255 (p0 p1 p2 r) (h : m_impl_isWord p0 p1 p2 = some r) : Sc 255 [aS p0, aI p1, aB p2] [rB r] := by
 have i1 := inv fun m s => ∃ v7 : Int, (s.t 0 = vS p0 ∧ s.t 1 = vI p1 ∧ s.t 2 = vB p2 ∧ s.t 7 = vI v7) ∧ m_impl_isWord_L1 p0 p1 p2 m v7 = some r
 have e1 := @m_impl_isWord_L1.eq_2
 unfold m_impl_isWord at h
 exact sgo 38 [.tmp 6] Tryz.func255
instance : HasC 255 (type_of% @c255) := ⟨@c255⟩

theorem c153 (p0 r) (h : m_impl_IsName p0 = some r) : Sc 153 [aS p0] [rB r] := by
 unfold m_impl_IsName at h
 exact sgo 5 [.tmp 2] Tryz.func153
instance : HasC 153 (type_of% @c153) := ⟨@c153⟩

theorem c154 (p0 r) (h : m_impl_IsRegistration p0 = some r) : Sc 154 [aX (M.Registration.en p0)] [rB r] := by
  unfold m_impl_IsRegistration at h
  simp only [EN]
  refine sgn 37 [.tmp 2] Tryz.func154 fun base wd => ?_
  refine sq (rn ?_)
  refine an (sq (rn ?_))
  refine an (sq (sq (rn ?_)))
  refine an (bk ?_)
  refine cu (fun s => s.t 1 = vP 1 1 0 ∧ s.t 3 = vI 0 ∧ s.t 12 = vR 100012 1 ∧ s.t 13 = vI ((3 : Nat) : Int) ∧ s.t 14 = vI 0 ∧ s.h 1 = (1, oX 23 (M.Registration.en p0)) ∧ s.h 100012 = (1, oW 3 1 enI ([p0.Active, p0.Waiting, p0.Installing])) ∧ True) ?_
  rintro s1 ⟨f2, f3, f4, f5, f6, f7, f8, _⟩
  refine SW_loop (fun m s => ∃ v3 : Int, ∃ v14 : Int, s.t 1 = vP 1 1 0 ∧ s.t 3 = vI v3 ∧ s.t 12 = vR 100012 1 ∧ s.t 13 = vI ((3 : Nat) : Int) ∧ s.t 14 = vI v14 ∧ s.h 1 = (1, oX 23 (M.Registration.en p0)) ∧ s.h 100012 = (1, oW 3 1 enI ([p0.Active, p0.Waiting, p0.Installing])) ∧ m_impl_IsRegistration_L1 p0 m v3 v14 = some r) fuel ?_ ?_
  · refine ⟨0, 0, ?_, ?_, ?_, ?_, ?_, ?_, ?_, h⟩
    all_goals simp +decide only [F, reduceIte, Nat.reduceAdd, Bool.not_true, Bool.not_false, EN, *, -h]
  rintro mL1 s9 ⟨v3, v14, f10, f11, f12, f13, f14, f15, f16, h⟩
  rcases mL1 with _ | mL1
  · exact absurd h (by simp [m_impl_IsRegistration_L1])
  simp only [m_impl_IsRegistration_L1] at h
  refine sq (rn ?_)
  refine an (sq ?_)
  rcases bcas (decide (v14 < ((3 : Nat) : Int))) with b17 | b17
  · replace h := ite_f b17 h
    refine cf (xt (aft_cx (aft_ix (aft_x (an (sq ?_))))))
    obtain ⟨x28, h29, h⟩ := bind_some h
    refine rn1 (c153 _ _ h29) ?_
    refine an (rt ?_)
    cases h
    simp [Ret, TB, EN, *]
  replace h := ite_t b17 h
  refine ct (sk (an (sq (bk (sq ?_)))))
  obtain ⟨x18, h19, h⟩ := bind_some h
  obtain ⟨q20, q21, q22⟩ := idx_some h19
  have q20m := congrArg (Option.map enI) (show ([p0.Active, p0.Waiting, p0.Installing])[v14.toNat]? = some x18 by assumption)
  simp only [← List.getElem?_map, List.map_cons, List.map_nil, Option.map_some, EN] at q20m
  simp only [List.length_cons, List.length_nil, Nat.reduceAdd] at q22
  refine rn ?_
  refine an (sq (sq ?_))
  obtain ⟨x23, h24, h⟩ := bind_some h
  rcases bcase (!x23) with b25 | b25
  · replace h := ite_t b25 h
    refine rn1 (c158 _ _ _ _ h24) ?_
    refine an (ct (sq (rn ?_)))
    refine an (rt ?_)
    cases h
    simp [Ret, TB, EN, *]
  replace h := ite_f b25 h
  rcases bcas (x18 != 0) with b26 | b26
  · replace h := ite_f b26 h
    refine rn1 (c158 _ _ _ _ h24) ?_
    refine an (cf (sk (an (rn ?_))))
    refine ab (an (rn ?_))
    refine aft_i ⟨mL1, by omega, (if x18 > v3 then x18 else v3), (IntKind.i64.wrap (v14 + 1)), ?_, ?_, ?_, ?_, ?_, ?_, ?_, h⟩
    all_goals simp +decide only [F, reduceIte, Nat.reduceAdd, Bool.not_true, Bool.not_false, EN, *, -h]
  replace h := ite_t b26 h
  refine rn1 (c158 _ _ _ _ h24) ?_
  refine an ?_
  rcases bcase (decide (x18 ≤ v3)) with b27 | b27
  · replace h := ite_t b27 h
    refine ct (sq (rn ?_))
    refine an (rt ?_)
    cases h
    simp [Ret, TB, EN, *]
  replace h := ite_f b27 h
  refine cf (sk (an (rn ?_)))
  refine ab (an (rn ?_))
  refine aft_i ⟨mL1, by omega, (if x18 > v3 then x18 else v3), (IntKind.i64.wrap (v14 + 1)), ?_, ?_, ?_, ?_, ?_, ?_, ?_, h⟩
  all_goals simp +decide only [F, reduceIte, Nat.reduceAdd, Bool.not_true, Bool.not_false, EN, *, -h]
instance : HasC 154 (type_of% @c154) := ⟨@c154⟩

theorem c342 (p0 c0 c1 r) (h : m_impl_entryAt_1 p0 c0 c1 = some r) : Sc 342 [aX (M.Cached.en p0), (false, [.ptr [.str c0]]), (false, [.ptr [.str c1]])] [rB r] := by
 unfold m_impl_entryAt_1 at h
 exact sgo 15 [.tmp 4] Tryz.func342
instance : HasC 342 (type_of% @c342) := ⟨@c342⟩

theorem c341 (p0 : List M.Cached) (p1 : M.Cached → Option Bool) (f1_ : FuncId) (k1_ : List D) (hp1 : ∀ z0 r, p1 z0 = some r → SCalls Tryz.prog f1_ ((true, M.Cached.en z0) ::  k1_.map fun c => (false, [c])) [(false, [.ro (.bool r)])]) (r : Int) (h : m_slices_IndexFunc_Cached p0 p1 = some r) : Sc 341 [(false, [.sl (List.map M.Cached.en p0)]), (false, [.fn f1_ k1_])] [rI r] := by
  unfold m_slices_IndexFunc_Cached at h
  simp only [EN]
  refine sgn 19 [.tmp 4] Tryz.func341 fun base wd => ?_
  refine sq (rn ?_)
  refine an (sq (sq (rn ?_)))
  refine an (bk ?_)
  refine SW_loop (fun m s => ∃ v8 : Int, s.t 0 = vL M.Cached.en p0 ∧ s.t 1 = .v false [.dat (.fn f1_ k1_)] ∧ s.t 7 = vI (List.length p0 : Int) ∧ s.t 8 = vI v8 ∧ m_slices_IndexFunc_Cached_L1 p0 p1 m v8 = some r) fuel ?_ ?_
  · refine ⟨0, ?_, ?_, ?_, ?_, h⟩
    all_goals simp +decide only [F, reduceIte, Nat.reduceAdd, Bool.not_true, Bool.not_false, EN, *, -h]
  rintro mL1 s1 ⟨v8, f2, f3, f4, f5, h⟩
  rcases mL1 with _ | mL1
  · exact absurd h (by simp [m_slices_IndexFunc_Cached_L1])
  simp only [m_slices_IndexFunc_Cached_L1] at h
  refine sq (rn ?_)
  refine an (sq ?_)
  rcases bcas (decide (v8 < (List.length p0 : Int))) with b6 | b6
  · replace h := ite_f b6 h
    refine cf (xt (aft_cx (aft_ix (aft_x (an (sq (rn ?_)))))))
    refine an (rt ?_)
    cases h
    simp [Ret, TB, EN, *]
  replace h := ite_t b6 h
  refine ct (sk (an (sq (bk (sq (rn ?_))))))
  refine an (sq ?_)
  obtain ⟨x7, h8, h⟩ := bind_some h
  obtain ⟨q9, q10, q11⟩ := idx_some h8
  obtain ⟨x12, h13, h⟩ := bind_some h
  refine rn1 (hp1 x7 x12 h13) ?_
  refine an ?_
  rcases bcase x12 with b14 | b14
  · replace h := ite_t b14 h
    refine ct (sq (rn ?_))
    refine an (rt ?_)
    cases h
    simp [Ret, TB, EN, *]
  replace h := ite_f b14 h
  refine cf (sk (ab (an (rn ?_))))
  refine aft_i ⟨mL1, by omega, (IntKind.i64.wrap (v8 + 1)), ?_, ?_, ?_, ?_, h⟩
  all_goals simp +decide only [F, reduceIte, Nat.reduceAdd, Bool.not_true, Bool.not_false, EN, *, -h]
instance : HasC 341 (type_of% @c341) := ⟨@c341⟩

theorem c256 (p0 p1 p2 r) (h : m_impl_entryAt p0 p1 p2 = some r) : Sc 256 [aX (M.Cache.en p0), aS p1, aS p2] [rI r] := by
  unfold m_impl_entryAt at h
  simp only [EN]
  refine sgn 11 [.tmp 6] Tryz.func256 fun base wd => ?_
  refine sq (rn ?_)
  refine an (sq ?_)
  obtain ⟨x1, h2, h⟩ := bind_some h
  refine rn1 (c341 p0.Entries (fun z0 => m_impl_entryAt_1 z0 p1 p2) 342 [.ptr [.str p1], .ptr [.str p2]] (fun z0 r hr => c342 z0 p1 p2 r hr) x1 h2) ?_
  refine an (rt ?_)
  cases h
  simp [Ret, TB, EN, *]
instance : HasC 256 (type_of% @c256) := ⟨@c256⟩

theorem c257 (p0 r) (h : m_impl_IsResponse p0 = some r) : Sc 257 [aX (M.Response.en p0)] [rB r] := by
 unfold m_impl_IsResponse at h
 exact sgo 22 [.tmp 2] Tryz.func257
instance : HasC 257 (type_of% @c257) := ⟨@c257⟩

theorem c155 (p0 r) (h : m_impl_IsCacheSet p0 = some r) : Sc 155 [aX (M.CacheSet.en p0)] [rB r] := by
 have i1 := inv fun m s => ∃ v10 : Int, (s.t 1 = vP 1 1 0 ∧ s.t 8 = vL M.Cache.en p0.Caches ∧ s.t 9 = vI (List.length p0.Caches : Int) ∧ s.t 10 = vI v10 ∧ s.h 1 = (1, oX 26 (M.CacheSet.en p0))) ∧ m_impl_IsCacheSet_L1 p0 m v10 = some r
 have e1 := @m_impl_IsCacheSet_L1.eq_2
 have i2 := fun (v10 : Int) (x8 : M.Cache) (k25 : Int → Option Bool) (s1 : St) => inv fun m s => ∃ v44_L2 : Int, (s.t 1 = vP 1 1 0 ∧ s.t 4 = vP 4 ((s1.h 4).1 + 1) 0 ∧ s.t 8 = vL M.Cache.en p0.Caches ∧ s.t 9 = vI (List.length p0.Caches : Int) ∧ s.t 10 = vI v10 ∧ s.t 42 = vL M.Cached.en x8.Entries ∧ s.t 43 = vI (List.length x8.Entries : Int) ∧ s.t 44 = vI v44_L2 ∧ s.h 1 = (1, oX 26 (M.CacheSet.en p0)) ∧ s.h 4 = (((s1.h 4).1 + 1), oX 297 (M.Cache.en x8))) ∧ m_impl_IsCacheSet_L2 x8 k25 m v44_L2 = some r
 have e2 := @m_impl_IsCacheSet_L2.eq_2
 have i3 := fun (v10 : Int) (x8 : M.Cache) (k57 : Int → Option Bool) (s1 : St) => inv fun m s => ∃ v44_L3 : Int, (s.t 1 = vP 1 1 0 ∧ s.t 4 = vP 4 ((s1.h 4).1 + 1) 0 ∧ s.t 8 = vL M.Cache.en p0.Caches ∧ s.t 9 = vI (List.length p0.Caches : Int) ∧ s.t 10 = vI v10 ∧ s.t 42 = vL M.Cached.en x8.Entries ∧ s.t 43 = vI (List.length x8.Entries : Int) ∧ s.t 44 = vI v44_L3 ∧ s.h 1 = (1, oX 26 (M.CacheSet.en p0)) ∧ s.h 4 = (((s1.h 4).1 + 1), oX 297 (M.Cache.en x8))) ∧ m_impl_IsCacheSet_L3 x8 k57 m v44_L3 = some r
 have e3 := @m_impl_IsCacheSet_L3.eq_2
 unfold m_impl_IsCacheSet at h
 exact sgo 81 [.tmp 2] Tryz.func155
instance : HasC 155 (type_of% @c155) := ⟨@c155⟩

theorem c397 (p0 r) (h : m_impl_isKeyText p0 = some r) : Sc 397 [aS p0] [rB r] := by
 have i1 := inv fun m s => ∃ v3 : Int, (s.t 0 = vS p0 ∧ s.t 3 = vI v3) ∧ m_impl_isKeyText_L1 p0 m v3 = some r
 have e1 := @m_impl_isKeyText_L1.eq_2
 unfold m_impl_isKeyText at h
 exact sgo 36 [.tmp 2] Tryz.func397
instance : HasC 397 (type_of% @c397) := ⟨@c397⟩

theorem c340 (p0 r) (h : m_impl_IsKey p0 = some r) : Sc 340 [aX (M.Key.en p0)] [rB r] := by
 unfold m_impl_IsKey at h
 exact sgo 39 [.tmp 2] Tryz.func340
instance : HasC 340 (type_of% @c340) := ⟨@c340⟩

theorem c343 (p0 r) (h : m_impl_IsRecord p0 = some r) : Sc 343 [aX (M.Record.en p0)] [rB r] := by
 have i1 := inv fun m s => ∃ v8 : Int, (s.t 1 = vP 1 1 0 ∧ s.t 6 = vL M.Field.en p0.Fields ∧ s.t 7 = vI (List.length p0.Fields : Int) ∧ s.t 8 = vI v8 ∧ s.h 1 = (1, oX 225 (M.Record.en p0))) ∧ m_impl_IsRecord_L1 p0 m v8 = some r
 have e1 := @m_impl_IsRecord_L1.eq_2
 unfold m_impl_IsRecord at h
 exact sgo 44 [.tmp 2] Tryz.func343
instance : HasC 343 (type_of% @c343) := ⟨@c343⟩

theorem c398 (p0 p1 r) (h : m_impl_compareInts p0 p1 = some r) : Sc 398 [aI p0, aI p1] [rI r] := by
 unfold m_impl_compareInts at h
 exact sgo 13 [.tmp 4] Tryz.func398
instance : HasC 398 (type_of% @c398) := ⟨@c398⟩

set_option maxRecDepth 100000 in
set_option maxHeartbeats 4000000 in
theorem c427 (p0 : ByteArray) (p1 : ByteArray) (r : Int) (h : m_internal_bytealg_CompareString p0 p1 = some r) : SCalls Tryz.prog 427 [(false, [.str p0]), (false, [.str p1])] [(false, [.ro (.int .i64 r)])] := by
  refine scalls_str2 Tryz.func427 rfl (by decide +kernel) fun w => ?_
  cases h
  go_enter Tryz.func427, Tryz.ntmps427
  go_wp2
  rw [run_callFunc_extern Tryz.func444 (by kernel_rfl) (by kernel_rfl) (by kernel_rfl) (e := Extern.BytealgCompare.compare) (by kernel_rfl), Lib.run_compareString]
  simp only [Result.andThen]
  rw [Oper.upon_value]
  go_wp2
  go_ret
  exact ⟨rfl, rfl⟩
instance : HasC 427 (type_of% @c427) := ⟨@c427⟩

theorem c399 (p0 p1 r) (h : m_strings_Compare p0 p1 = some r) : Sc 399 [aS p0, aS p1] [rI r] := by
 unfold m_strings_Compare at h
 exact sgo 8 [.tmp 4] Tryz.func399
instance : HasC 399 (type_of% @c399) := ⟨@c399⟩

theorem c344 (p0 p1 r) (h : m_impl_CompareKeys p0 p1 = some r) : Sc 344 [aX (M.Key.en p0), aX (M.Key.en p1)] [rI r] := by
 unfold m_impl_CompareKeys at h
 exact sgo 36 [.tmp 4] Tryz.func344
instance : HasC 344 (type_of% @c344) := ⟨@c344⟩

theorem c258 (p0 r) (h : m_impl_IsStore p0 = some r) : Sc 258 [aX (M.Store.en p0)] [rB r] := by
 have i1 := inv fun m s => ∃ v8 : Int, (s.t 1 = vP 1 1 0 ∧ s.t 6 = vL M.Item.en p0.Items ∧ s.t 7 = vI (List.length p0.Items : Int) ∧ s.t 8 = vI v8 ∧ s.h 1 = (1, oX 36 (M.Store.en p0))) ∧ m_impl_IsStore_L1 p0 m v8 = some r
 have e1 := @m_impl_IsStore_L1.eq_2
 unfold m_impl_IsStore at h
 exact sgo 55 [.tmp 2] Tryz.func258
instance : HasC 258 (type_of% @c258) := ⟨@c258⟩

theorem c325 (p0 c0 r) (h : m_impl_FindStore_1 p0 c0 = some r) : Sc 325 [aX (M.Store.en p0), (false, [.ptr [.str c0]])] [rB r] := by
 unfold m_impl_FindStore_1 at h
 exact sgo 8 [.tmp 3] Tryz.func325
instance : HasC 325 (type_of% @c325) := ⟨@c325⟩

theorem c324 (p0 : List M.Store) (p1 : M.Store → Option Bool) (f1_ : FuncId) (k1_ : List D) (hp1 : ∀ z0 r, p1 z0 = some r → SCalls Tryz.prog f1_ ((true, M.Store.en z0) ::  k1_.map fun c => (false, [c])) [(false, [.ro (.bool r)])]) (r : Int) (h : m_slices_IndexFunc_Store p0 p1 = some r) : Sc 324 [(false, [.sl (List.map M.Store.en p0)]), (false, [.fn f1_ k1_])] [rI r] := by
  unfold m_slices_IndexFunc_Store at h
  simp only [EN]
  refine sgn 19 [.tmp 4] Tryz.func324 fun base wd => ?_
  refine sq (rn ?_)
  refine an (sq (sq (rn ?_)))
  refine an (bk ?_)
  refine SW_loop (fun m s => ∃ v8 : Int, s.t 0 = vL M.Store.en p0 ∧ s.t 1 = .v false [.dat (.fn f1_ k1_)] ∧ s.t 7 = vI (List.length p0 : Int) ∧ s.t 8 = vI v8 ∧ m_slices_IndexFunc_Store_L1 p0 p1 m v8 = some r) fuel ?_ ?_
  · refine ⟨0, ?_, ?_, ?_, ?_, h⟩
    all_goals simp +decide only [F, reduceIte, Nat.reduceAdd, Bool.not_true, Bool.not_false, EN, *, -h]
  rintro mL1 s1 ⟨v8, f2, f3, f4, f5, h⟩
  rcases mL1 with _ | mL1
  · exact absurd h (by simp [m_slices_IndexFunc_Store_L1])
  simp only [m_slices_IndexFunc_Store_L1] at h
  refine sq (rn ?_)
  refine an (sq ?_)
  rcases bcas (decide (v8 < (List.length p0 : Int))) with b6 | b6
  · replace h := ite_f b6 h
    refine cf (xt (aft_cx (aft_ix (aft_x (an (sq (rn ?_)))))))
    refine an (rt ?_)
    cases h
    simp [Ret, TB, EN, *]
  replace h := ite_t b6 h
  refine ct (sk (an (sq (bk (sq (rn ?_))))))
  refine an (sq ?_)
  obtain ⟨x7, h8, h⟩ := bind_some h
  obtain ⟨q9, q10, q11⟩ := idx_some h8
  obtain ⟨x12, h13, h⟩ := bind_some h
  refine rn1 (hp1 x7 x12 h13) ?_
  refine an ?_
  rcases bcase x12 with b14 | b14
  · replace h := ite_t b14 h
    refine ct (sq (rn ?_))
    refine an (rt ?_)
    cases h
    simp [Ret, TB, EN, *]
  replace h := ite_f b14 h
  refine cf (sk (ab (an (rn ?_))))
  refine aft_i ⟨mL1, by omega, (IntKind.i64.wrap (v8 + 1)), ?_, ?_, ?_, ?_, h⟩
  all_goals simp +decide only [F, reduceIte, Nat.reduceAdd, Bool.not_true, Bool.not_false, EN, *, -h]
instance : HasC 324 (type_of% @c324) := ⟨@c324⟩

theorem c240 (p0 p1 r) (h : m_impl_FindStore p0 p1 = some r) : Sc 240 [aX (M.Database.en p0), aS p1] [rI r] := by
  unfold m_impl_FindStore at h
  simp only [EN]
  refine sgn 9 [.tmp 4] Tryz.func240 fun base wd => ?_
  refine sq (rn ?_)
  refine an (sq ?_)
  obtain ⟨x1, h2, h⟩ := bind_some h
  refine rn1 (c324 p0.Stores (fun z0 => m_impl_FindStore_1 z0 p1) 325 [.ptr [.str p1]] (fun z0 r hr => c325 z0 p1 r hr) x1 h2) ?_
  refine an (rt ?_)
  cases h
  simp [Ret, TB, EN, *]
instance : HasC 240 (type_of% @c240) := ⟨@c240⟩

theorem c345 (p0 p1 r) (h : m_slices_Index_IndexDef p0 p1 = some r) : Sc 345 [aL M.IndexDef.en p0, aX (M.IndexDef.en p1)] [rI r] := by
 have i1 := inv fun m s => ∃ v8 : Int, (s.t 0 = vL M.IndexDef.en p0 ∧ s.t 3 = vP 3 1 0 ∧ s.t 7 = vI (List.length p0 : Int) ∧ s.t 8 = vI v8 ∧ s.h 3 = (1, oX 337 (M.IndexDef.en p1))) ∧ m_slices_Index_IndexDef_L1 p0 p1 m v8 = some r
 have e1 := @m_slices_Index_IndexDef_L1.eq_2
 unfold m_slices_Index_IndexDef at h
 exact sgo 19 [.tmp 4] Tryz.func345
instance : HasC 345 (type_of% @c345) := ⟨@c345⟩

theorem c259 (p0 p1 r) (h : m_slices_Contains_IndexDef p0 p1 = some r) : Sc 259 [aL M.IndexDef.en p0, aX (M.IndexDef.en p1)] [rB r] := by
 unfold m_slices_Contains_IndexDef at h
 exact sgo 9 [.tmp 4] Tryz.func259
instance : HasC 259 (type_of% @c259) := ⟨@c259⟩

theorem c329 (p0 c0 r) (h : m_impl_fieldAt_1 p0 c0 = some r) : Sc 329 [aX (M.Field.en p0), (false, [.ptr [.str c0]])] [rB r] := by
 unfold m_impl_fieldAt_1 at h
 exact sgo 8 [.tmp 3] Tryz.func329
instance : HasC 329 (type_of% @c329) := ⟨@c329⟩

theorem c328 (p0 : List M.Field) (p1 : M.Field → Option Bool) (f1_ : FuncId) (k1_ : List D) (hp1 : ∀ z0 r, p1 z0 = some r → SCalls Tryz.prog f1_ ((true, M.Field.en z0) ::  k1_.map fun c => (false, [c])) [(false, [.ro (.bool r)])]) (r : Int) (h : m_slices_IndexFunc_Field p0 p1 = some r) : Sc 328 [(false, [.sl (List.map M.Field.en p0)]), (false, [.fn f1_ k1_])] [rI r] := by
  unfold m_slices_IndexFunc_Field at h
  simp only [EN]
  refine sgn 19 [.tmp 4] Tryz.func328 fun base wd => ?_
  refine sq (rn ?_)
  refine an (sq (sq (rn ?_)))
  refine an (bk ?_)
  refine SW_loop (fun m s => ∃ v8 : Int, s.t 0 = vL M.Field.en p0 ∧ s.t 1 = .v false [.dat (.fn f1_ k1_)] ∧ s.t 7 = vI (List.length p0 : Int) ∧ s.t 8 = vI v8 ∧ m_slices_IndexFunc_Field_L1 p0 p1 m v8 = some r) fuel ?_ ?_
  · refine ⟨0, ?_, ?_, ?_, ?_, h⟩
    all_goals simp +decide only [F, reduceIte, Nat.reduceAdd, Bool.not_true, Bool.not_false, EN, *, -h]
  rintro mL1 s1 ⟨v8, f2, f3, f4, f5, h⟩
  rcases mL1 with _ | mL1
  · exact absurd h (by simp [m_slices_IndexFunc_Field_L1])
  simp only [m_slices_IndexFunc_Field_L1] at h
  refine sq (rn ?_)
  refine an (sq ?_)
  rcases bcas (decide (v8 < (List.length p0 : Int))) with b6 | b6
  · replace h := ite_f b6 h
    refine cf (xt (aft_cx (aft_ix (aft_x (an (sq (rn ?_)))))))
    refine an (rt ?_)
    cases h
    simp [Ret, TB, EN, *]
  replace h := ite_t b6 h
  refine ct (sk (an (sq (bk (sq (rn ?_))))))
  refine an (sq ?_)
  obtain ⟨x7, h8, h⟩ := bind_some h
  obtain ⟨q9, q10, q11⟩ := idx_some h8
  obtain ⟨x12, h13, h⟩ := bind_some h
  refine rn1 (hp1 x7 x12 h13) ?_
  refine an ?_
  rcases bcase x12 with b14 | b14
  · replace h := ite_t b14 h
    refine ct (sq (rn ?_))
    refine an (rt ?_)
    cases h
    simp [Ret, TB, EN, *]
  replace h := ite_f b14 h
  refine cf (sk (ab (an (rn ?_))))
  refine aft_i ⟨mL1, by omega, (IntKind.i64.wrap (v8 + 1)), ?_, ?_, ?_, ?_, h⟩
  all_goals simp +decide only [F, reduceIte, Nat.reduceAdd, Bool.not_true, Bool.not_false, EN, *, -h]
instance : HasC 328 (type_of% @c328) := ⟨@c328⟩

theorem c243 (p0 p1 r) (h : m_impl_fieldAt p0 p1 = some r) : Sc 243 [aX (M.Record.en p0), aS p1] [rI r] := by
  unfold m_impl_fieldAt at h
  simp only [EN]
  refine sgn 9 [.tmp 4] Tryz.func243 fun base wd => ?_
  refine sq (rn ?_)
  refine an (sq ?_)
  obtain ⟨x1, h2, h⟩ := bind_some h
  refine rn1 (c328 p0.Fields (fun z0 => m_impl_fieldAt_1 z0 p1) 329 [.ptr [.str p1]] (fun z0 r hr => c329 z0 p1 r hr) x1 h2) ?_
  refine an (rt ?_)
  cases h
  simp [Ret, TB, EN, *]
instance : HasC 243 (type_of% @c243) := ⟨@c243⟩

theorem c141 (p0 p1 r) (h : m_impl_GetField p0 p1 = some r) : Sc 141 [aX (M.Record.en p0), aS p1] [rI r.1, rB r.2] := by
 unfold m_impl_GetField at h
 exact sgo 18 [.tmp 4, .tmp 5] Tryz.func141
instance : HasC 141 (type_of% @c141) := ⟨@c141⟩

theorem c400 (p0 p1 p2 r) (h : m_impl_fieldBefore p0 p1 p2 = some r) : Sc 400 [aX (M.Item.en p0), aX (M.Item.en p1), aS p2] [rB r] := by
 unfold m_impl_fieldBefore at h
 exact sgo 41 [.tmp 6] Tryz.func400
instance : HasC 400 (type_of% @c400) := ⟨@c400⟩

end Go.Proofs.YtgemmnkhddlhpaaGreat.gen
