/-
  Helper text: walks: each function's contract out of its model. No conditions beyond those of each contract.
-/
import Derived.Test.YtmpbibngijnfeaaGreatUTi
namespace Go.Proofs.YtmpbibngijnfeaaGreat.gen
open Go Go.Sh
set_option linter.unusedVariables false
set_option linter.unusedSimpArgs false
set_option maxRecDepth 20000
set_option maxHeartbeats 4000000
theorem c27 (p0 r) (h : m_laws_toRegistration p0 = some r) : Sc 27 [aX (M.Registration.en p0)] [(true, M.Registration.rs r)] := by
 unfold m_laws_toRegistration at h
 exact sgo 17 [.cell 2 48] Tryz.func27
instance : HasC 27 (type_of% @c27) := ⟨@c27⟩

theorem c37 (p0 r) (h : m_laws_toByteS p0 = some r) : Sc 37 [aL enB p0] [rW 5 1 enB r] := by
 have i1 := inv fun m s => ∃ v4 : Int, ∃ r7 : List Int, (s.t 0 = vL enB p0 ∧ s.t 3 = vR 100007 1 ∧ s.t 4 = vI v4 ∧ s.h 100007 = (1, oW 5 1 enB r7)) ∧ m_laws_toByteS_L1 p0 m v4 r7 = some r
 have e1 := @m_laws_toByteS_L1.eq_2
 unfold m_laws_toByteS at h
 exact sgo 22 [.tmp 2] Tryz.func37
instance : HasC 37 (type_of% @c37) := ⟨@c37⟩

theorem c204 (p0 r) (h : m_laws_toResponse p0 = some r) : Sc 204 [aX (M.Response.en p0)] [(true, M.Response.rs r)] := by
 unfold m_laws_toResponse at h
 exact sgo 21 [.cell 2 188] Tryz.func204
instance : HasC 204 (type_of% @c204) := ⟨@c204⟩

theorem c170 (p0 r) (h : m_laws_toCached p0 = some r) : Sc 170 [aX (M.Cached.en p0)] [(true, M.Cached.rs r)] := by
 unfold m_laws_toCached at h
 exact sgo 15 [.cell 2 190] Tryz.func170
instance : HasC 170 (type_of% @c170) := ⟨@c170⟩

theorem c131 (p0 r) (h : m_laws_toCachedS p0 = some r) : Sc 131 [aL M.Cached.en p0] [rW 190 7 M.Cached.en r] := by
 have i1 := inv fun m s => ∃ v4 : Int, ∃ r7 : List M.Cached, (s.t 0 = vL M.Cached.en p0 ∧ s.t 3 = vR 100007 1 ∧ s.t 4 = vI v4 ∧ s.h 100007 = (1, oW 190 7 M.Cached.en r7)) ∧ m_laws_toCachedS_L1 p0 m v4 r7 = some r
 have e1 := @m_laws_toCachedS_L1.eq_2
 unfold m_laws_toCachedS at h
 exact sgo 23 [.tmp 2] Tryz.func131
instance : HasC 131 (type_of% @c131) := ⟨@c131⟩

theorem c90 (p0 r) (h : m_laws_toCache p0 = some r) : Sc 90 [aX (M.Cache.en p0)] [(true, M.Cache.rs r)] := by
 unfold m_laws_toCache at h
 exact sgo 12 [.cell 2 144] Tryz.func90
instance : HasC 90 (type_of% @c90) := ⟨@c90⟩

theorem c58 (p0 r) (h : m_laws_toCacheS p0 = some r) : Sc 58 [aL M.Cache.en p0] [rW 144 2 M.Cache.en r] := by
 have i1 := inv fun m s => ∃ v4 : Int, ∃ r7 : List M.Cache, (s.t 0 = vL M.Cache.en p0 ∧ s.t 3 = vR 100007 1 ∧ s.t 4 = vI v4 ∧ s.h 100007 = (1, oW 144 2 M.Cache.en r7)) ∧ m_laws_toCacheS_L1 p0 m v4 r7 = some r
 have e1 := @m_laws_toCacheS_L1.eq_2
 unfold m_laws_toCacheS at h
 exact sgo 23 [.tmp 2] Tryz.func58
instance : HasC 58 (type_of% @c58) := ⟨@c58⟩

theorem c26 (p0 r) (h : m_laws_toCacheSet p0 = some r) : Sc 26 [aX (M.CacheSet.en p0)] [(true, M.CacheSet.rs r)] := by
 unfold m_laws_toCacheSet at h
 exact sgo 9 [.cell 2 51] Tryz.func26
instance : HasC 26 (type_of% @c26) := ⟨@c26⟩

theorem c163 (p0 r) (h : m_laws_toKey p0 = some r) : Sc 163 [aX (M.Key.en p0)] [(true, M.Key.rs r)] := by
 unfold m_laws_toKey at h
 exact sgo 14 [.cell 2 172] Tryz.func163
instance : HasC 163 (type_of% @c163) := ⟨@c163⟩

theorem c221 (p0 r) (h : m_laws_toField p0 = some r) : Sc 221 [aX (M.Field.en p0)] [(true, M.Field.rs r)] := by
 unfold m_laws_toField at h
 exact sgo 11 [.cell 2 223] Tryz.func221
instance : HasC 221 (type_of% @c221) := ⟨@c221⟩

theorem c201 (p0 r) (h : m_laws_toFieldS p0 = some r) : Sc 201 [aL M.Field.en p0] [rW 223 2 M.Field.en r] := by
 have i1 := inv fun m s => ∃ v4 : Int, ∃ r7 : List M.Field, (s.t 0 = vL M.Field.en p0 ∧ s.t 3 = vR 100007 1 ∧ s.t 4 = vI v4 ∧ s.h 100007 = (1, oW 223 2 M.Field.en r7)) ∧ m_laws_toFieldS_L1 p0 m v4 r7 = some r
 have e1 := @m_laws_toFieldS_L1.eq_2
 unfold m_laws_toFieldS at h
 exact sgo 23 [.tmp 2] Tryz.func201
instance : HasC 201 (type_of% @c201) := ⟨@c201⟩

theorem c164 (p0 r) (h : m_laws_toRecord p0 = some r) : Sc 164 [aX (M.Record.en p0)] [(true, M.Record.rs r)] := by
 unfold m_laws_toRecord at h
 exact sgo 9 [.cell 2 175] Tryz.func164
instance : HasC 164 (type_of% @c164) := ⟨@c164⟩

theorem c123 (p0 r) (h : m_laws_toItem p0 = some r) : Sc 123 [aX (M.Item.en p0)] [(true, M.Item.rs r)] := by
 unfold m_laws_toItem at h
 exact sgo 13 [.cell 2 177] Tryz.func123
instance : HasC 123 (type_of% @c123) := ⟨@c123⟩

theorem c82 (p0 r) (h : m_laws_toItemS p0 = some r) : Sc 82 [aL M.Item.en p0] [rW 177 4 M.Item.en r] := by
 have i1 := inv fun m s => ∃ v4 : Int, ∃ r7 : List M.Item, (s.t 0 = vL M.Item.en p0 ∧ s.t 3 = vR 100007 1 ∧ s.t 4 = vI v4 ∧ s.h 100007 = (1, oW 177 4 M.Item.en r7)) ∧ m_laws_toItemS_L1 p0 m v4 r7 = some r
 have e1 := @m_laws_toItemS_L1.eq_2
 unfold m_laws_toItemS at h
 exact sgo 23 [.tmp 2] Tryz.func82
instance : HasC 82 (type_of% @c82) := ⟨@c82⟩

theorem c50 (p0 r) (h : m_laws_toStore p0 = some r) : Sc 50 [aX (M.Store.en p0)] [(true, M.Store.rs r)] := by
 unfold m_laws_toStore at h
 exact sgo 15 [.cell 2 60] Tryz.func50
instance : HasC 50 (type_of% @c50) := ⟨@c50⟩

theorem c65 (p0 r) (h : m_laws_toStoreS p0 = some r) : Sc 65 [aL M.Store.en p0] [rW 60 3 M.Store.en r] := by
 have i1 := inv fun m s => ∃ v4 : Int, ∃ r7 : List M.Store, (s.t 0 = vL M.Store.en p0 ∧ s.t 3 = vR 100007 1 ∧ s.t 4 = vI v4 ∧ s.h 100007 = (1, oW 60 3 M.Store.en r7)) ∧ m_laws_toStoreS_L1 p0 m v4 r7 = some r
 have e1 := @m_laws_toStoreS_L1.eq_2
 unfold m_laws_toStoreS at h
 exact sgo 23 [.tmp 2] Tryz.func65
instance : HasC 65 (type_of% @c65) := ⟨@c65⟩

theorem c101 (p0 r) (h : m_laws_toIndexDef p0 = some r) : Sc 101 [aX (M.IndexDef.en p0)] [(true, M.IndexDef.rs r)] := by
 unfold m_laws_toIndexDef at h
 exact sgo 11 [.cell 2 159] Tryz.func101
instance : HasC 101 (type_of% @c101) := ⟨@c101⟩

theorem c66 (p0 r) (h : m_laws_toIndexDefS p0 = some r) : Sc 66 [aL M.IndexDef.en p0] [rW 159 2 M.IndexDef.en r] := by
 have i1 := inv fun m s => ∃ v4 : Int, ∃ r7 : List M.IndexDef, (s.t 0 = vL M.IndexDef.en p0 ∧ s.t 3 = vR 100007 1 ∧ s.t 4 = vI v4 ∧ s.h 100007 = (1, oW 159 2 M.IndexDef.en r7)) ∧ m_laws_toIndexDefS_L1 p0 m v4 r7 = some r
 have e1 := @m_laws_toIndexDefS_L1.eq_2
 unfold m_laws_toIndexDefS at h
 exact sgo 23 [.tmp 2] Tryz.func66
instance : HasC 66 (type_of% @c66) := ⟨@c66⟩

theorem c36 (p0 r) (h : m_laws_toDatabase p0 = some r) : Sc 36 [aX (M.Database.en p0)] [(true, M.Database.rs r)] := by
 unfold m_laws_toDatabase at h
 exact sgo 19 [.cell 2 55] Tryz.func36
instance : HasC 36 (type_of% @c36) := ⟨@c36⟩

theorem c10 (p0 r) (h : m_laws_toDisk p0 = some r) : Sc 10 [aX (M.Disk.en p0)] [(true, M.Disk.rs r)] := by
 unfold m_laws_toDisk at h
 exact sgo 16 [.cell 2 57] Tryz.func10
instance : HasC 10 (type_of% @c10) := ⟨@c10⟩

theorem c165 (p0 r) (h : m_laws_toWrite p0 = some r) : Sc 165 [aX (M.Write.en p0)] [(true, M.Write.rs r)] := by
 unfold m_laws_toWrite at h
 exact sgo 21 [.cell 2 217] Tryz.func165
instance : HasC 165 (type_of% @c165) := ⟨@c165⟩

theorem c124 (p0 r) (h : m_laws_toWriteS p0 = some r) : Sc 124 [aL M.Write.en p0] [rW 217 7 M.Write.en r] := by
 have i1 := inv fun m s => ∃ v4 : Int, ∃ r7 : List M.Write, (s.t 0 = vL M.Write.en p0 ∧ s.t 3 = vR 100007 1 ∧ s.t 4 = vI v4 ∧ s.h 100007 = (1, oW 217 7 M.Write.en r7)) ∧ m_laws_toWriteS_L1 p0 m v4 r7 = some r
 have e1 := @m_laws_toWriteS_L1.eq_2
 unfold m_laws_toWriteS at h
 exact sgo 23 [.tmp 2] Tryz.func124
instance : HasC 124 (type_of% @c124) := ⟨@c124⟩

theorem c83 (p0 r) (h : m_laws_toOutbox p0 = some r) : Sc 83 [aX (M.Outbox.en p0)] [(true, M.Outbox.rs r)] := by
 unfold m_laws_toOutbox at h
 exact sgo 15 [.cell 2 63] Tryz.func83
instance : HasC 83 (type_of% @c83) := ⟨@c83⟩

theorem c51 (p0 r) (h : m_laws_toSync p0 = some r) : Sc 51 [aX (M.Sync.en p0)] [(true, M.Sync.rs r)] := by
 unfold m_laws_toSync at h
 exact sgo 15 [.cell 2 65] Tryz.func51
instance : HasC 51 (type_of% @c51) := ⟨@c51⟩

theorem c19 (p0 r) (h : m_laws_toReplica p0 = some r) : Sc 19 [aX (M.Replica.en p0)] [(true, M.Replica.rs r)] := by
 unfold m_laws_toReplica at h
 exact sgo 16 [.cell 2 67] Tryz.func19
instance : HasC 19 (type_of% @c19) := ⟨@c19⟩

theorem c9 (p0 r) (h : m_laws_toBucket p0 = some r) : Sc 9 [aX (M.Bucket.en p0)] [(true, M.Bucket.rs r)] := by
 unfold m_laws_toBucket at h
 exact sgo 33 [.cell 2 69] Tryz.func9
instance : HasC 9 (type_of% @c9) := ⟨@c9⟩

end Go.Proofs.YtmpbibngijnfeaaGreat.gen
