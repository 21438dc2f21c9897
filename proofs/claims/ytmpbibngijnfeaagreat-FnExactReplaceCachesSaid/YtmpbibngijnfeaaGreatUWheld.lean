/-
  Helper text: walks: each function's contract out of its model. No conditions beyond those of each contract.
-/
import Derived.Test.YtmpbibngijnfeaaGreatUTi
import Derived.Test.YtmpbibngijnfeaaGreatUWmark
namespace Go.Proofs.YtmpbibngijnfeaaGreat.gen
open Go Go.Sh
set_option linter.unusedVariables false
set_option linter.unusedSimpArgs false
set_option maxRecDepth 20000
set_option maxHeartbeats 4000000
theorem c75 (p0 p1 r) (h : m_laws_heldByteS p0 p1 = some r) : Sc 75 [aL enB p0, aI p1] [rI r] := by
 have i1 := inv fun m s => ∃ v1 : Int, ∃ v5 : Int, (s.t 0 = vL enB p0 ∧ s.t 1 = vI v1 ∧ s.t 5 = vI v5) ∧ m_laws_heldByteS_L1 p0 m v1 v5 = some r
 have e1 := @m_laws_heldByteS_L1.eq_2
 unfold m_laws_heldByteS at h
 exact sgo 22 [.tmp 4] Tryz.func75
instance : HasC 75 (type_of% @c75) := ⟨@c75⟩

theorem c114 (p0 p1 r) (h : m_laws_heldCachedS p0 p1 = some r) : Sc 114 [aL M.Cached.en p0, aI p1] [rI r] := by
 have i1 := inv fun m s => ∃ v1 : Int, ∃ v5 : Int, (s.t 0 = vL M.Cached.en p0 ∧ s.t 1 = vI v1 ∧ s.t 5 = vI v5) ∧ m_laws_heldCachedS_L1 p0 m v1 v5 = some r
 have e1 := @m_laws_heldCachedS_L1.eq_2
 unfold m_laws_heldCachedS at h
 exact sgo 85 [.tmp 4] Tryz.func114
instance : HasC 114 (type_of% @c114) := ⟨@c114⟩

theorem c73 (p0 p1 r) (h : m_laws_heldCacheS p0 p1 = some r) : Sc 73 [aL M.Cache.en p0, aI p1] [rI r] := by
 have i1 := inv fun m s => ∃ v1 : Int, ∃ v5 : Int, (s.t 0 = vL M.Cache.en p0 ∧ s.t 1 = vI v1 ∧ s.t 5 = vI v5) ∧ m_laws_heldCacheS_L1 p0 m v1 v5 = some r
 have e1 := @m_laws_heldCacheS_L1.eq_2
 unfold m_laws_heldCacheS at h
 exact sgo 31 [.tmp 4] Tryz.func73
instance : HasC 73 (type_of% @c73) := ⟨@c73⟩

theorem c44 (p0 p1 r) (h : m_laws_heldCacheSet p0 p1 = some r) : Sc 44 [aX (M.CacheSet.en p0), aI p1] [rI r] := by
 unfold m_laws_heldCacheSet at h
 exact sgo 12 [.tmp 4] Tryz.func44
instance : HasC 44 (type_of% @c44) := ⟨@c44⟩

theorem c157 (p0 p1 r) (h : m_laws_heldFieldS p0 p1 = some r) : Sc 157 [aL M.Field.en p0, aI p1] [rI r] := by
 have i1 := inv fun m s => ∃ v1 : Int, ∃ v5 : Int, (s.t 0 = vL M.Field.en p0 ∧ s.t 1 = vI v1 ∧ s.t 5 = vI v5) ∧ m_laws_heldFieldS_L1 p0 m v1 v5 = some r
 have e1 := @m_laws_heldFieldS_L1.eq_2
 unfold m_laws_heldFieldS at h
 exact sgo 32 [.tmp 4] Tryz.func157
instance : HasC 157 (type_of% @c157) := ⟨@c157⟩

theorem c117 (p0 p1 r) (h : m_laws_heldItemS p0 p1 = some r) : Sc 117 [aL M.Item.en p0, aI p1] [rI r] := by
 have i1 := inv fun m s => ∃ v1 : Int, ∃ v5 : Int, (s.t 0 = vL M.Item.en p0 ∧ s.t 1 = vI v1 ∧ s.t 5 = vI v5) ∧ m_laws_heldItemS_L1 p0 m v1 v5 = some r
 have e1 := @m_laws_heldItemS_L1.eq_2
 unfold m_laws_heldItemS at h
 exact sgo 54 [.tmp 4] Tryz.func117
instance : HasC 117 (type_of% @c117) := ⟨@c117⟩

theorem c115 (p0 p1 r) (h : m_laws_heldStoreS p0 p1 = some r) : Sc 115 [aL M.Store.en p0, aI p1] [rI r] := by
 have i1 := inv fun m s => ∃ v1 : Int, ∃ v5 : Int, (s.t 0 = vL M.Store.en p0 ∧ s.t 1 = vI v1 ∧ s.t 5 = vI v5) ∧ m_laws_heldStoreS_L1 p0 m v1 v5 = some r
 have e1 := @m_laws_heldStoreS_L1.eq_2
 unfold m_laws_heldStoreS at h
 exact sgo 41 [.tmp 4] Tryz.func115
instance : HasC 115 (type_of% @c115) := ⟨@c115⟩

theorem c116 (p0 p1 r) (h : m_laws_heldIndexDefS p0 p1 = some r) : Sc 116 [aL M.IndexDef.en p0, aI p1] [rI r] := by
 have i1 := inv fun m s => ∃ v1 : Int, ∃ v5 : Int, (s.t 0 = vL M.IndexDef.en p0 ∧ s.t 1 = vI v1 ∧ s.t 5 = vI v5) ∧ m_laws_heldIndexDefS_L1 p0 m v1 v5 = some r
 have e1 := @m_laws_heldIndexDefS_L1.eq_2
 unfold m_laws_heldIndexDefS at h
 exact sgo 33 [.tmp 4] Tryz.func116
instance : HasC 116 (type_of% @c116) := ⟨@c116⟩

theorem c74 (p0 p1 r) (h : m_laws_heldDatabase p0 p1 = some r) : Sc 74 [aX (M.Database.en p0), aI p1] [rI r] := by
 unfold m_laws_heldDatabase at h
 exact sgo 18 [.tmp 4] Tryz.func74
instance : HasC 74 (type_of% @c74) := ⟨@c74⟩

theorem c45 (p0 p1 r) (h : m_laws_heldDisk p0 p1 = some r) : Sc 45 [aX (M.Disk.en p0), aI p1] [rI r] := by
 unfold m_laws_heldDisk at h
 exact sgo 18 [.tmp 4] Tryz.func45
instance : HasC 45 (type_of% @c45) := ⟨@c45⟩

theorem c76 (p0 p1 r) (h : m_laws_heldStore p0 p1 = some r) : Sc 76 [aX (M.Store.en p0), aI p1] [rI r] := by
 unfold m_laws_heldStore at h
 exact sgo 12 [.tmp 4] Tryz.func76
instance : HasC 76 (type_of% @c76) := ⟨@c76⟩

theorem c158 (p0 p1 r) (h : m_laws_heldWriteS p0 p1 = some r) : Sc 158 [aL M.Write.en p0, aI p1] [rI r] := by
 have i1 := inv fun m s => ∃ v1 : Int, ∃ v5 : Int, (s.t 0 = vL M.Write.en p0 ∧ s.t 1 = vI v1 ∧ s.t 5 = vI v5) ∧ m_laws_heldWriteS_L1 p0 m v1 v5 = some r
 have e1 := @m_laws_heldWriteS_L1.eq_2
 unfold m_laws_heldWriteS at h
 exact sgo 81 [.tmp 4] Tryz.func158
instance : HasC 158 (type_of% @c158) := ⟨@c158⟩

theorem c118 (p0 p1 r) (h : m_laws_heldOutbox p0 p1 = some r) : Sc 118 [aX (M.Outbox.en p0), aI p1] [rI r] := by
 unfold m_laws_heldOutbox at h
 exact sgo 12 [.tmp 4] Tryz.func118
instance : HasC 118 (type_of% @c118) := ⟨@c118⟩

theorem c77 (p0 p1 r) (h : m_laws_heldSync p0 p1 = some r) : Sc 77 [aX (M.Sync.en p0), aI p1] [rI r] := by
 unfold m_laws_heldSync at h
 exact sgo 12 [.tmp 4] Tryz.func77
instance : HasC 77 (type_of% @c77) := ⟨@c77⟩

theorem c46 (p0 p1 r) (h : m_laws_heldReplica p0 p1 = some r) : Sc 46 [aX (M.Replica.en p0), aI p1] [rI r] := by
 unfold m_laws_heldReplica at h
 exact sgo 18 [.tmp 4] Tryz.func46
instance : HasC 46 (type_of% @c46) := ⟨@c46⟩

theorem c16 (p0 p1 r) (h : m_laws_heldBucket p0 p1 = some r) : Sc 16 [aX (M.Bucket.en p0), aI p1] [rI r] := by
 unfold m_laws_heldBucket at h
 exact sgo 24 [.tmp 4] Tryz.func16
instance : HasC 16 (type_of% @c16) := ⟨@c16⟩

end Go.Proofs.YtmpbibngijnfeaaGreat.gen
