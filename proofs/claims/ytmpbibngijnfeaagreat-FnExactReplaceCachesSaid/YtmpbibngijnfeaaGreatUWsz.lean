/-
  Helper text: walks: each function's contract out of its model. No conditions beyond those of each contract.
-/
import Derived.Test.YtmpbibngijnfeaaGreatUTi
namespace Go.Proofs.YtmpbibngijnfeaaGreat.gen
open Go Go.Sh
set_option linter.unusedVariables false
set_option linter.unusedSimpArgs false
set_option maxRecDepth 20000
set_option maxHeartbeats 4000000
theorem c24 (p0 p1 r) (h : m_laws_szRegistration p0 p1 = some r) : Sc 24 [aX (M.Registration.en p0), aI p1] [rI r] := by
 unfold m_laws_szRegistration at h
 exact sgo 13 [.tmp 4] Tryz.func24
instance : HasC 24 (type_of% @c24) := ⟨@c24⟩

theorem c32 (p0 p1 r) (h : m_laws_szByteS p0 p1 = some r) : Sc 32 [aL enB p0, aI p1] [rI r] := by
 unfold m_laws_szByteS at h
 exact sgo 12 [.tmp 4] Tryz.func32
instance : HasC 32 (type_of% @c32) := ⟨@c32⟩

theorem c203 (p0 p1 r) (h : m_laws_szResponse p0 p1 = some r) : Sc 203 [aX (M.Response.en p0), aI p1] [rI r] := by
 unfold m_laws_szResponse at h
 exact sgo 12 [.tmp 4] Tryz.func203
instance : HasC 203 (type_of% @c203) := ⟨@c203⟩

theorem c169 (p0 p1 r) (h : m_laws_szCached p0 p1 = some r) : Sc 169 [aX (M.Cached.en p0), aI p1] [rI r] := by
 unfold m_laws_szCached at h
 exact sgo 26 [.tmp 4] Tryz.func169
instance : HasC 169 (type_of% @c169) := ⟨@c169⟩

theorem c129 (p0 p1 r) (h : m_laws_szCachedS p0 p1 = some r) : Sc 129 [aL M.Cached.en p0, aI p1] [rI r] := by
 have i1 := inv fun m s => ∃ v1 : Int, ∃ v5 : Int, (s.t 0 = vL M.Cached.en p0 ∧ s.t 1 = vI v1 ∧ s.t 5 = vI v5) ∧ m_laws_szCachedS_L1 p0 m v1 v5 = some r
 have e1 := @m_laws_szCachedS_L1.eq_2
 unfold m_laws_szCachedS at h
 exact sgo 27 [.tmp 4] Tryz.func129
instance : HasC 129 (type_of% @c129) := ⟨@c129⟩

theorem c88 (p0 p1 r) (h : m_laws_szCache p0 p1 = some r) : Sc 88 [aX (M.Cache.en p0), aI p1] [rI r] := by
 unfold m_laws_szCache at h
 exact sgo 12 [.tmp 4] Tryz.func88
instance : HasC 88 (type_of% @c88) := ⟨@c88⟩

theorem c56 (p0 p1 r) (h : m_laws_szCacheS p0 p1 = some r) : Sc 56 [aL M.Cache.en p0, aI p1] [rI r] := by
 have i1 := inv fun m s => ∃ v1 : Int, ∃ v5 : Int, (s.t 0 = vL M.Cache.en p0 ∧ s.t 1 = vI v1 ∧ s.t 5 = vI v5) ∧ m_laws_szCacheS_L1 p0 m v1 v5 = some r
 have e1 := @m_laws_szCacheS_L1.eq_2
 unfold m_laws_szCacheS at h
 exact sgo 27 [.tmp 4] Tryz.func56
instance : HasC 56 (type_of% @c56) := ⟨@c56⟩

theorem c23 (p0 p1 r) (h : m_laws_szCacheSet p0 p1 = some r) : Sc 23 [aX (M.CacheSet.en p0), aI p1] [rI r] := by
 unfold m_laws_szCacheSet at h
 exact sgo 12 [.tmp 4] Tryz.func23
instance : HasC 23 (type_of% @c23) := ⟨@c23⟩

theorem c159 (p0 p1 r) (h : m_laws_szKey p0 p1 = some r) : Sc 159 [aX (M.Key.en p0), aI p1] [rI r] := by
 unfold m_laws_szKey at h
 exact sgo 13 [.tmp 4] Tryz.func159
instance : HasC 159 (type_of% @c159) := ⟨@c159⟩

theorem c220 (p0 p1 r) (h : m_laws_szField p0 p1 = some r) : Sc 220 [aX (M.Field.en p0), aI p1] [rI r] := by
 unfold m_laws_szField at h
 exact sgo 13 [.tmp 4] Tryz.func220
instance : HasC 220 (type_of% @c220) := ⟨@c220⟩

theorem c200 (p0 p1 r) (h : m_laws_szFieldS p0 p1 = some r) : Sc 200 [aL M.Field.en p0, aI p1] [rI r] := by
 have i1 := inv fun m s => ∃ v1 : Int, ∃ v5 : Int, (s.t 0 = vL M.Field.en p0 ∧ s.t 1 = vI v1 ∧ s.t 5 = vI v5) ∧ m_laws_szFieldS_L1 p0 m v1 v5 = some r
 have e1 := @m_laws_szFieldS_L1.eq_2
 unfold m_laws_szFieldS at h
 exact sgo 27 [.tmp 4] Tryz.func200
instance : HasC 200 (type_of% @c200) := ⟨@c200⟩

theorem c160 (p0 p1 r) (h : m_laws_szRecord p0 p1 = some r) : Sc 160 [aX (M.Record.en p0), aI p1] [rI r] := by
 unfold m_laws_szRecord at h
 exact sgo 12 [.tmp 4] Tryz.func160
instance : HasC 160 (type_of% @c160) := ⟨@c160⟩

theorem c119 (p0 p1 r) (h : m_laws_szItem p0 p1 = some r) : Sc 119 [aX (M.Item.en p0), aI p1] [rI r] := by
 unfold m_laws_szItem at h
 exact sgo 18 [.tmp 4] Tryz.func119
instance : HasC 119 (type_of% @c119) := ⟨@c119⟩

theorem c78 (p0 p1 r) (h : m_laws_szItemS p0 p1 = some r) : Sc 78 [aL M.Item.en p0, aI p1] [rI r] := by
 have i1 := inv fun m s => ∃ v1 : Int, ∃ v5 : Int, (s.t 0 = vL M.Item.en p0 ∧ s.t 1 = vI v1 ∧ s.t 5 = vI v5) ∧ m_laws_szItemS_L1 p0 m v1 v5 = some r
 have e1 := @m_laws_szItemS_L1.eq_2
 unfold m_laws_szItemS at h
 exact sgo 27 [.tmp 4] Tryz.func78
instance : HasC 78 (type_of% @c78) := ⟨@c78⟩

theorem c47 (p0 p1 r) (h : m_laws_szStore p0 p1 = some r) : Sc 47 [aX (M.Store.en p0), aI p1] [rI r] := by
 unfold m_laws_szStore at h
 exact sgo 19 [.tmp 4] Tryz.func47
instance : HasC 47 (type_of% @c47) := ⟨@c47⟩

theorem c61 (p0 p1 r) (h : m_laws_szStoreS p0 p1 = some r) : Sc 61 [aL M.Store.en p0, aI p1] [rI r] := by
 have i1 := inv fun m s => ∃ v1 : Int, ∃ v5 : Int, (s.t 0 = vL M.Store.en p0 ∧ s.t 1 = vI v1 ∧ s.t 5 = vI v5) ∧ m_laws_szStoreS_L1 p0 m v1 v5 = some r
 have e1 := @m_laws_szStoreS_L1.eq_2
 unfold m_laws_szStoreS at h
 exact sgo 27 [.tmp 4] Tryz.func61
instance : HasC 61 (type_of% @c61) := ⟨@c61⟩

theorem c93 (p0 p1 r) (h : m_laws_szIndexDef p0 p1 = some r) : Sc 93 [aX (M.IndexDef.en p0), aI p1] [rI r] := by
 unfold m_laws_szIndexDef at h
 exact sgo 20 [.tmp 4] Tryz.func93
instance : HasC 93 (type_of% @c93) := ⟨@c93⟩

theorem c62 (p0 p1 r) (h : m_laws_szIndexDefS p0 p1 = some r) : Sc 62 [aL M.IndexDef.en p0, aI p1] [rI r] := by
 have i1 := inv fun m s => ∃ v1 : Int, ∃ v5 : Int, (s.t 0 = vL M.IndexDef.en p0 ∧ s.t 1 = vI v1 ∧ s.t 5 = vI v5) ∧ m_laws_szIndexDefS_L1 p0 m v1 v5 = some r
 have e1 := @m_laws_szIndexDefS_L1.eq_2
 unfold m_laws_szIndexDefS at h
 exact sgo 27 [.tmp 4] Tryz.func62
instance : HasC 62 (type_of% @c62) := ⟨@c62⟩

theorem c31 (p0 p1 r) (h : m_laws_szDatabase p0 p1 = some r) : Sc 31 [aX (M.Database.en p0), aI p1] [rI r] := by
 unfold m_laws_szDatabase at h
 exact sgo 25 [.tmp 4] Tryz.func31
instance : HasC 31 (type_of% @c31) := ⟨@c31⟩

theorem c7 (p0 p1 r) (h : m_laws_szDisk p0 p1 = some r) : Sc 7 [aX (M.Disk.en p0), aI p1] [rI r] := by
 unfold m_laws_szDisk at h
 exact sgo 18 [.tmp 4] Tryz.func7
instance : HasC 7 (type_of% @c7) := ⟨@c7⟩

theorem c161 (p0 p1 r) (h : m_laws_szWrite p0 p1 = some r) : Sc 161 [aX (M.Write.en p0), aI p1] [rI r] := by
 unfold m_laws_szWrite at h
 exact sgo 19 [.tmp 4] Tryz.func161
instance : HasC 161 (type_of% @c161) := ⟨@c161⟩

theorem c120 (p0 p1 r) (h : m_laws_szWriteS p0 p1 = some r) : Sc 120 [aL M.Write.en p0, aI p1] [rI r] := by
 have i1 := inv fun m s => ∃ v1 : Int, ∃ v5 : Int, (s.t 0 = vL M.Write.en p0 ∧ s.t 1 = vI v1 ∧ s.t 5 = vI v5) ∧ m_laws_szWriteS_L1 p0 m v1 v5 = some r
 have e1 := @m_laws_szWriteS_L1.eq_2
 unfold m_laws_szWriteS at h
 exact sgo 27 [.tmp 4] Tryz.func120
instance : HasC 120 (type_of% @c120) := ⟨@c120⟩

theorem c79 (p0 p1 r) (h : m_laws_szOutbox p0 p1 = some r) : Sc 79 [aX (M.Outbox.en p0), aI p1] [rI r] := by
 unfold m_laws_szOutbox at h
 exact sgo 12 [.tmp 4] Tryz.func79
instance : HasC 79 (type_of% @c79) := ⟨@c79⟩

theorem c48 (p0 p1 r) (h : m_laws_szSync p0 p1 = some r) : Sc 48 [aX (M.Sync.en p0), aI p1] [rI r] := by
 unfold m_laws_szSync at h
 exact sgo 12 [.tmp 4] Tryz.func48
instance : HasC 48 (type_of% @c48) := ⟨@c48⟩

theorem c17 (p0 p1 r) (h : m_laws_szReplica p0 p1 = some r) : Sc 17 [aX (M.Replica.en p0), aI p1] [rI r] := by
 unfold m_laws_szReplica at h
 exact sgo 18 [.tmp 4] Tryz.func17
instance : HasC 17 (type_of% @c17) := ⟨@c17⟩

theorem c6 (p0 p1 r) (h : m_laws_szBucket p0 p1 = some r) : Sc 6 [aX (M.Bucket.en p0), aI p1] [rI r] := by
 unfold m_laws_szBucket at h
 exact sgo 44 [.tmp 4] Tryz.func6
instance : HasC 6 (type_of% @c6) := ⟨@c6⟩

end Go.Proofs.YtmpbibngijnfeaaGreat.gen
