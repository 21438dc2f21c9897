/-
  Helper text: walks: each function's contract out of its model. No conditions beyond those of each contract.
-/
import Derived.Test.YtgemmnkhddlhpaaGreatPutBucketTi
namespace Go.Proofs.YtgemmnkhddlhpaaGreat.gen
open Go Go.Sh
set_option linter.unusedVariables false
set_option linter.unusedSimpArgs false
set_option maxRecDepth 20000
set_option maxHeartbeats 4000000
theorem c38 (p0 r) (h : m_laws_toRegistration p0 = some r) : Sc 38 [aX (M.Registration.en p0)] [(true, M.Registration.rs r)] := by
 unfold m_laws_toRegistration at h
 exact sgo 17 [.cell 2 23] Tryz.func38
instance : HasC 38 (type_of% @c38) := ⟨@c38⟩

theorem c96 (p0 r) (h : m_laws_toByteS p0 = some r) : Sc 96 [aL enB p0] [rW 5 1 enB r] := by
 have i1 := inv fun m s => ∃ v4 : Int, ∃ r7 : List Int, (s.t 0 = vL enB p0 ∧ s.t 3 = vR 100007 1 ∧ s.t 4 = vI v4 ∧ s.h 100007 = (1, oW 5 1 enB r7)) ∧ m_laws_toByteS_L1 p0 m v4 r7 = some r
 have e1 := @m_laws_toByteS_L1.eq_2
 unfold m_laws_toByteS at h
 exact sgo 22 [.tmp 2] Tryz.func96
instance : HasC 96 (type_of% @c96) := ⟨@c96⟩

theorem c413 (p0 r) (h : m_laws_toResponse p0 = some r) : Sc 413 [aX (M.Response.en p0)] [(true, M.Response.rs r)] := by
 unfold m_laws_toResponse at h
 exact sgo 21 [.cell 2 345] Tryz.func413
instance : HasC 413 (type_of% @c413) := ⟨@c413⟩

theorem c373 (p0 r) (h : m_laws_toCached p0 = some r) : Sc 373 [aX (M.Cached.en p0)] [(true, M.Cached.rs r)] := by
 unfold m_laws_toCached at h
 exact sgo 15 [.cell 2 347] Tryz.func373
instance : HasC 373 (type_of% @c373) := ⟨@c373⟩

theorem c303 (p0 r) (h : m_laws_toCachedS p0 = some r) : Sc 303 [aL M.Cached.en p0] [rW 347 7 M.Cached.en r] := by
 have i1 := inv fun m s => ∃ v4 : Int, ∃ r7 : List M.Cached, (s.t 0 = vL M.Cached.en p0 ∧ s.t 3 = vR 100007 1 ∧ s.t 4 = vI v4 ∧ s.h 100007 = (1, oW 347 7 M.Cached.en r7)) ∧ m_laws_toCachedS_L1 p0 m v4 r7 = some r
 have e1 := @m_laws_toCachedS_L1.eq_2
 unfold m_laws_toCachedS at h
 exact sgo 23 [.tmp 2] Tryz.func303
instance : HasC 303 (type_of% @c303) := ⟨@c303⟩

theorem c209 (p0 r) (h : m_laws_toCache p0 = some r) : Sc 209 [aX (M.Cache.en p0)] [(true, M.Cache.rs r)] := by
 unfold m_laws_toCache at h
 exact sgo 12 [.cell 2 297] Tryz.func209
instance : HasC 209 (type_of% @c209) := ⟨@c209⟩

theorem c113 (p0 r) (h : m_laws_toCacheS p0 = some r) : Sc 113 [aL M.Cache.en p0] [rW 297 2 M.Cache.en r] := by
 have i1 := inv fun m s => ∃ v4 : Int, ∃ r7 : List M.Cache, (s.t 0 = vL M.Cache.en p0 ∧ s.t 3 = vR 100007 1 ∧ s.t 4 = vI v4 ∧ s.h 100007 = (1, oW 297 2 M.Cache.en r7)) ∧ m_laws_toCacheS_L1 p0 m v4 r7 = some r
 have e1 := @m_laws_toCacheS_L1.eq_2
 unfold m_laws_toCacheS at h
 exact sgo 23 [.tmp 2] Tryz.func113
instance : HasC 113 (type_of% @c113) := ⟨@c113⟩

theorem c37 (p0 r) (h : m_laws_toCacheSet p0 = some r) : Sc 37 [aX (M.CacheSet.en p0)] [(true, M.CacheSet.rs r)] := by
 unfold m_laws_toCacheSet at h
 exact sgo 9 [.cell 2 26] Tryz.func37
instance : HasC 37 (type_of% @c37) := ⟨@c37⟩

theorem c368 (p0 r) (h : m_laws_toKey p0 = some r) : Sc 368 [aX (M.Key.en p0)] [(true, M.Key.rs r)] := by
 unfold m_laws_toKey at h
 exact sgo 14 [.cell 2 259] Tryz.func368
instance : HasC 368 (type_of% @c368) := ⟨@c368⟩

theorem c432 (p0 r) (h : m_laws_toField p0 = some r) : Sc 432 [aX (M.Field.en p0)] [(true, M.Field.rs r)] := by
 unfold m_laws_toField at h
 exact sgo 11 [.cell 2 317] Tryz.func432
instance : HasC 432 (type_of% @c432) := ⟨@c432⟩

theorem c410 (p0 r) (h : m_laws_toFieldS p0 = some r) : Sc 410 [aL M.Field.en p0] [rW 317 2 M.Field.en r] := by
 have i1 := inv fun m s => ∃ v4 : Int, ∃ r7 : List M.Field, (s.t 0 = vL M.Field.en p0 ∧ s.t 3 = vR 100007 1 ∧ s.t 4 = vI v4 ∧ s.h 100007 = (1, oW 317 2 M.Field.en r7)) ∧ m_laws_toFieldS_L1 p0 m v4 r7 = some r
 have e1 := @m_laws_toFieldS_L1.eq_2
 unfold m_laws_toFieldS at h
 exact sgo 23 [.tmp 2] Tryz.func410
instance : HasC 410 (type_of% @c410) := ⟨@c410⟩

theorem c369 (p0 r) (h : m_laws_toRecord p0 = some r) : Sc 369 [aX (M.Record.en p0)] [(true, M.Record.rs r)] := by
 unfold m_laws_toRecord at h
 exact sgo 9 [.cell 2 225] Tryz.func369
instance : HasC 369 (type_of% @c369) := ⟨@c369⟩

theorem c298 (p0 r) (h : m_laws_toItem p0 = some r) : Sc 298 [aX (M.Item.en p0)] [(true, M.Item.rs r)] := by
 unfold m_laws_toItem at h
 exact sgo 13 [.cell 2 315] Tryz.func298
instance : HasC 298 (type_of% @c298) := ⟨@c298⟩

theorem c201 (p0 r) (h : m_laws_toItemS p0 = some r) : Sc 201 [aL M.Item.en p0] [rW 315 4 M.Item.en r] := by
 have i1 := inv fun m s => ∃ v4 : Int, ∃ r7 : List M.Item, (s.t 0 = vL M.Item.en p0 ∧ s.t 3 = vR 100007 1 ∧ s.t 4 = vI v4 ∧ s.h 100007 = (1, oW 315 4 M.Item.en r7)) ∧ m_laws_toItemS_L1 p0 m v4 r7 = some r
 have e1 := @m_laws_toItemS_L1.eq_2
 unfold m_laws_toItemS at h
 exact sgo 23 [.tmp 2] Tryz.func201
instance : HasC 201 (type_of% @c201) := ⟨@c201⟩

theorem c105 (p0 r) (h : m_laws_toStore p0 = some r) : Sc 105 [aX (M.Store.en p0)] [(true, M.Store.rs r)] := by
 unfold m_laws_toStore at h
 exact sgo 15 [.cell 2 36] Tryz.func105
instance : HasC 105 (type_of% @c105) := ⟨@c105⟩

theorem c191 (p0 r) (h : m_laws_toStoreS p0 = some r) : Sc 191 [aL M.Store.en p0] [rW 36 3 M.Store.en r] := by
 have i1 := inv fun m s => ∃ v4 : Int, ∃ r7 : List M.Store, (s.t 0 = vL M.Store.en p0 ∧ s.t 3 = vR 100007 1 ∧ s.t 4 = vI v4 ∧ s.h 100007 = (1, oW 36 3 M.Store.en r7)) ∧ m_laws_toStoreS_L1 p0 m v4 r7 = some r
 have e1 := @m_laws_toStoreS_L1.eq_2
 unfold m_laws_toStoreS at h
 exact sgo 23 [.tmp 2] Tryz.func191
instance : HasC 191 (type_of% @c191) := ⟨@c191⟩

theorem c293 (p0 r) (h : m_laws_toIndexDef p0 = some r) : Sc 293 [aX (M.IndexDef.en p0)] [(true, M.IndexDef.rs r)] := by
 unfold m_laws_toIndexDef at h
 exact sgo 11 [.cell 2 337] Tryz.func293
instance : HasC 293 (type_of% @c293) := ⟨@c293⟩

theorem c192 (p0 r) (h : m_laws_toIndexDefS p0 = some r) : Sc 192 [aL M.IndexDef.en p0] [rW 337 2 M.IndexDef.en r] := by
 have i1 := inv fun m s => ∃ v4 : Int, ∃ r7 : List M.IndexDef, (s.t 0 = vL M.IndexDef.en p0 ∧ s.t 3 = vR 100007 1 ∧ s.t 4 = vI v4 ∧ s.h 100007 = (1, oW 337 2 M.IndexDef.en r7)) ∧ m_laws_toIndexDefS_L1 p0 m v4 r7 = some r
 have e1 := @m_laws_toIndexDefS_L1.eq_2
 unfold m_laws_toIndexDefS at h
 exact sgo 23 [.tmp 2] Tryz.func192
instance : HasC 192 (type_of% @c192) := ⟨@c192⟩

theorem c95 (p0 r) (h : m_laws_toDatabase p0 = some r) : Sc 95 [aX (M.Database.en p0)] [(true, M.Database.rs r)] := by
 unfold m_laws_toDatabase at h
 exact sgo 19 [.cell 2 30] Tryz.func95
instance : HasC 95 (type_of% @c95) := ⟨@c95⟩

theorem c24 (p0 r) (h : m_laws_toDisk p0 = some r) : Sc 24 [aX (M.Disk.en p0)] [(true, M.Disk.rs r)] := by
 unfold m_laws_toDisk at h
 exact sgo 16 [.cell 2 33] Tryz.func24
instance : HasC 24 (type_of% @c24) := ⟨@c24⟩

theorem c358 (p0 r) (h : m_laws_toWrite p0 = some r) : Sc 358 [aX (M.Write.en p0)] [(true, M.Write.rs r)] := by
 unfold m_laws_toWrite at h
 exact sgo 21 [.cell 2 261] Tryz.func358
instance : HasC 358 (type_of% @c358) := ⟨@c358⟩

theorem c279 (p0 r) (h : m_laws_toWriteS p0 = some r) : Sc 279 [aL M.Write.en p0] [rW 261 7 M.Write.en r] := by
 have i1 := inv fun m s => ∃ v4 : Int, ∃ r7 : List M.Write, (s.t 0 = vL M.Write.en p0 ∧ s.t 3 = vR 100007 1 ∧ s.t 4 = vI v4 ∧ s.h 100007 = (1, oW 261 7 M.Write.en r7)) ∧ m_laws_toWriteS_L1 p0 m v4 r7 = some r
 have e1 := @m_laws_toWriteS_L1.eq_2
 unfold m_laws_toWriteS at h
 exact sgo 23 [.tmp 2] Tryz.func279
instance : HasC 279 (type_of% @c279) := ⟨@c279⟩

theorem c202 (p0 r) (h : m_laws_toOutbox p0 = some r) : Sc 202 [aX (M.Outbox.en p0)] [(true, M.Outbox.rs r)] := by
 unfold m_laws_toOutbox at h
 exact sgo 15 [.cell 2 39] Tryz.func202
instance : HasC 202 (type_of% @c202) := ⟨@c202⟩

theorem c106 (p0 r) (h : m_laws_toSync p0 = some r) : Sc 106 [aX (M.Sync.en p0)] [(true, M.Sync.rs r)] := by
 unfold m_laws_toSync at h
 exact sgo 15 [.cell 2 41] Tryz.func106
instance : HasC 106 (type_of% @c106) := ⟨@c106⟩

theorem c30 (p0 r) (h : m_laws_toReplica p0 = some r) : Sc 30 [aX (M.Replica.en p0)] [(true, M.Replica.rs r)] := by
 unfold m_laws_toReplica at h
 exact sgo 16 [.cell 2 43] Tryz.func30
instance : HasC 30 (type_of% @c30) := ⟨@c30⟩

theorem c23 (p0 r) (h : m_laws_toBucket p0 = some r) : Sc 23 [aX (M.Bucket.en p0)] [(true, M.Bucket.rs r)] := by
 unfold m_laws_toBucket at h
 exact sgo 33 [.cell 2 45] Tryz.func23
instance : HasC 23 (type_of% @c23) := ⟨@c23⟩

theorem c121 (p0 r) (h : m_laws_toBucketS p0 = some r) : Sc 121 [aL M.Bucket.en p0] [rW 45 24 M.Bucket.en r] := by
 have i1 := inv fun m s => ∃ v4 : Int, ∃ r7 : List M.Bucket, (s.t 0 = vL M.Bucket.en p0 ∧ s.t 3 = vR 100007 1 ∧ s.t 4 = vI v4 ∧ s.h 100007 = (1, oW 45 24 M.Bucket.en r7)) ∧ m_laws_toBucketS_L1 p0 m v4 r7 = some r
 have e1 := @m_laws_toBucketS_L1.eq_2
 unfold m_laws_toBucketS at h
 exact sgo 23 [.tmp 2] Tryz.func121
instance : HasC 121 (type_of% @c121) := ⟨@c121⟩

theorem c44 (p0 r) (h : m_laws_toStorage p0 = some r) : Sc 44 [aX (M.Storage.en p0)] [(true, M.Storage.rs r)] := by
 unfold m_laws_toStorage at h
 exact sgo 9 [.cell 2 69] Tryz.func44
instance : HasC 44 (type_of% @c44) := ⟨@c44⟩

end Go.Proofs.YtgemmnkhddlhpaaGreat.gen
