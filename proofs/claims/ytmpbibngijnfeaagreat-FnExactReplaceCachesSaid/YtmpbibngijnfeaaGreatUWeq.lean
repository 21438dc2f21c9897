/-
  Helper text: walks: each function's contract out of its model. No conditions beyond those of each contract.
-/
import Derived.Test.YtmpbibngijnfeaaGreatUTi
namespace Go.Proofs.YtmpbibngijnfeaaGreat.gen
open Go Go.Sh
set_option linter.unusedVariables false
set_option linter.unusedSimpArgs false
set_option maxRecDepth 20000
set_option maxHeartbeats 4000000
theorem c39 (p0 p1 r) (h : m_laws_eqRegistration p0 p1 = some r) : Sc 39 [aX (M.Registration.en p0), aX (M.Registration.en p1)] [rB r] := by
 unfold m_laws_eqRegistration at h
 exact sgo 25 [.tmp 4] Tryz.func39
instance : HasC 39 (type_of% @c39) := ⟨@c39⟩

theorem c41 (p0 p1 r) (h : m_laws_eqByteS p0 p1 = some r) : Sc 41 [aL enB p0, aL enB p1] [rB r] := by
 have i1 := inv fun m s => ∃ v5 : Int, (s.t 0 = vL enB p0 ∧ s.t 1 = vL enB p1 ∧ s.t 5 = vI v5) ∧ m_laws_eqByteS_L1 p0 p1 m v5 = some r
 have e1 := @m_laws_eqByteS_L1.eq_2
 unfold m_laws_eqByteS at h
 exact sgo 26 [.tmp 4] Tryz.func41
instance : HasC 41 (type_of% @c41) := ⟨@c41⟩

theorem c205 (p0 p1 r) (h : m_laws_eqResponse p0 p1 = some r) : Sc 205 [aX (M.Response.en p0), aX (M.Response.en p1)] [rB r] := by
 unfold m_laws_eqResponse at h
 exact sgo 31 [.tmp 4] Tryz.func205
instance : HasC 205 (type_of% @c205) := ⟨@c205⟩

theorem c171 (p0 p1 r) (h : m_laws_eqCached p0 p1 = some r) : Sc 171 [aX (M.Cached.en p0), aX (M.Cached.en p1)] [rB r] := by
 unfold m_laws_eqCached at h
 exact sgo 21 [.tmp 4] Tryz.func171
instance : HasC 171 (type_of% @c171) := ⟨@c171⟩

theorem c132 (p0 p1 r) (h : m_laws_eqCachedS p0 p1 = some r) : Sc 132 [aL M.Cached.en p0, aL M.Cached.en p1] [rB r] := by
 have i1 := inv fun m s => ∃ v5 : Int, (s.t 0 = vL M.Cached.en p0 ∧ s.t 1 = vL M.Cached.en p1 ∧ s.t 5 = vI v5) ∧ m_laws_eqCachedS_L1 p0 p1 m v5 = some r
 have e1 := @m_laws_eqCachedS_L1.eq_2
 unfold m_laws_eqCachedS at h
 exact sgo 27 [.tmp 4] Tryz.func132
instance : HasC 132 (type_of% @c132) := ⟨@c132⟩

theorem c91 (p0 p1 r) (h : m_laws_eqCache p0 p1 = some r) : Sc 91 [aX (M.Cache.en p0), aX (M.Cache.en p1)] [rB r] := by
 unfold m_laws_eqCache at h
 exact sgo 16 [.tmp 4] Tryz.func91
instance : HasC 91 (type_of% @c91) := ⟨@c91⟩

theorem c59 (p0 p1 r) (h : m_laws_eqCacheS p0 p1 = some r) : Sc 59 [aL M.Cache.en p0, aL M.Cache.en p1] [rB r] := by
 have i1 := inv fun m s => ∃ v5 : Int, (s.t 0 = vL M.Cache.en p0 ∧ s.t 1 = vL M.Cache.en p1 ∧ s.t 5 = vI v5) ∧ m_laws_eqCacheS_L1 p0 p1 m v5 = some r
 have e1 := @m_laws_eqCacheS_L1.eq_2
 unfold m_laws_eqCacheS at h
 exact sgo 27 [.tmp 4] Tryz.func59
instance : HasC 59 (type_of% @c59) := ⟨@c59⟩

theorem c29 (p0 p1 r) (h : m_laws_eqCacheSet p0 p1 = some r) : Sc 29 [aX (M.CacheSet.en p0), aX (M.CacheSet.en p1)] [rB r] := by
 unfold m_laws_eqCacheSet at h
 exact sgo 11 [.tmp 4] Tryz.func29
instance : HasC 29 (type_of% @c29) := ⟨@c29⟩

theorem c166 (p0 p1 r) (h : m_laws_eqKey p0 p1 = some r) : Sc 166 [aX (M.Key.en p0), aX (M.Key.en p1)] [rB r] := by
 unfold m_laws_eqKey at h
 exact sgo 20 [.tmp 4] Tryz.func166
instance : HasC 166 (type_of% @c166) := ⟨@c166⟩

theorem c222 (p0 p1 r) (h : m_laws_eqField p0 p1 = some r) : Sc 222 [aX (M.Field.en p0), aX (M.Field.en p1)] [rB r] := by
 unfold m_laws_eqField at h
 exact sgo 15 [.tmp 4] Tryz.func222
instance : HasC 222 (type_of% @c222) := ⟨@c222⟩

theorem c202 (p0 p1 r) (h : m_laws_eqFieldS p0 p1 = some r) : Sc 202 [aL M.Field.en p0, aL M.Field.en p1] [rB r] := by
 have i1 := inv fun m s => ∃ v5 : Int, (s.t 0 = vL M.Field.en p0 ∧ s.t 1 = vL M.Field.en p1 ∧ s.t 5 = vI v5) ∧ m_laws_eqFieldS_L1 p0 p1 m v5 = some r
 have e1 := @m_laws_eqFieldS_L1.eq_2
 unfold m_laws_eqFieldS at h
 exact sgo 27 [.tmp 4] Tryz.func202
instance : HasC 202 (type_of% @c202) := ⟨@c202⟩

theorem c167 (p0 p1 r) (h : m_laws_eqRecord p0 p1 = some r) : Sc 167 [aX (M.Record.en p0), aX (M.Record.en p1)] [rB r] := by
 unfold m_laws_eqRecord at h
 exact sgo 11 [.tmp 4] Tryz.func167
instance : HasC 167 (type_of% @c167) := ⟨@c167⟩

theorem c125 (p0 p1 r) (h : m_laws_eqItem p0 p1 = some r) : Sc 125 [aX (M.Item.en p0), aX (M.Item.en p1)] [rB r] := by
 unfold m_laws_eqItem at h
 exact sgo 17 [.tmp 4] Tryz.func125
instance : HasC 125 (type_of% @c125) := ⟨@c125⟩

theorem c84 (p0 p1 r) (h : m_laws_eqItemS p0 p1 = some r) : Sc 84 [aL M.Item.en p0, aL M.Item.en p1] [rB r] := by
 have i1 := inv fun m s => ∃ v5 : Int, (s.t 0 = vL M.Item.en p0 ∧ s.t 1 = vL M.Item.en p1 ∧ s.t 5 = vI v5) ∧ m_laws_eqItemS_L1 p0 p1 m v5 = some r
 have e1 := @m_laws_eqItemS_L1.eq_2
 unfold m_laws_eqItemS at h
 exact sgo 27 [.tmp 4] Tryz.func84
instance : HasC 84 (type_of% @c84) := ⟨@c84⟩

theorem c52 (p0 p1 r) (h : m_laws_eqStore p0 p1 = some r) : Sc 52 [aX (M.Store.en p0), aX (M.Store.en p1)] [rB r] := by
 unfold m_laws_eqStore at h
 exact sgo 21 [.tmp 4] Tryz.func52
instance : HasC 52 (type_of% @c52) := ⟨@c52⟩

theorem c69 (p0 p1 r) (h : m_laws_eqStoreS p0 p1 = some r) : Sc 69 [aL M.Store.en p0, aL M.Store.en p1] [rB r] := by
 have i1 := inv fun m s => ∃ v5 : Int, (s.t 0 = vL M.Store.en p0 ∧ s.t 1 = vL M.Store.en p1 ∧ s.t 5 = vI v5) ∧ m_laws_eqStoreS_L1 p0 p1 m v5 = some r
 have e1 := @m_laws_eqStoreS_L1.eq_2
 unfold m_laws_eqStoreS at h
 exact sgo 27 [.tmp 4] Tryz.func69
instance : HasC 69 (type_of% @c69) := ⟨@c69⟩

theorem c112 (p0 p1 r) (h : m_laws_eqIndexDef p0 p1 = some r) : Sc 112 [aX (M.IndexDef.en p0), aX (M.IndexDef.en p1)] [rB r] := by
 unfold m_laws_eqIndexDef at h
 exact sgo 15 [.tmp 4] Tryz.func112
instance : HasC 112 (type_of% @c112) := ⟨@c112⟩

theorem c70 (p0 p1 r) (h : m_laws_eqIndexDefS p0 p1 = some r) : Sc 70 [aL M.IndexDef.en p0, aL M.IndexDef.en p1] [rB r] := by
 have i1 := inv fun m s => ∃ v5 : Int, (s.t 0 = vL M.IndexDef.en p0 ∧ s.t 1 = vL M.IndexDef.en p1 ∧ s.t 5 = vI v5) ∧ m_laws_eqIndexDefS_L1 p0 p1 m v5 = some r
 have e1 := @m_laws_eqIndexDefS_L1.eq_2
 unfold m_laws_eqIndexDefS at h
 exact sgo 27 [.tmp 4] Tryz.func70
instance : HasC 70 (type_of% @c70) := ⟨@c70⟩

theorem c40 (p0 p1 r) (h : m_laws_eqDatabase p0 p1 = some r) : Sc 40 [aX (M.Database.en p0), aX (M.Database.en p1)] [rB r] := by
 unfold m_laws_eqDatabase at h
 exact sgo 27 [.tmp 4] Tryz.func40
instance : HasC 40 (type_of% @c40) := ⟨@c40⟩

theorem c13 (p0 p1 r) (h : m_laws_eqDisk p0 p1 = some r) : Sc 13 [aX (M.Disk.en p0), aX (M.Disk.en p1)] [rB r] := by
 unfold m_laws_eqDisk at h
 exact sgo 22 [.tmp 4] Tryz.func13
instance : HasC 13 (type_of% @c13) := ⟨@c13⟩

theorem c168 (p0 p1 r) (h : m_laws_eqWrite p0 p1 = some r) : Sc 168 [aX (M.Write.en p0), aX (M.Write.en p1)] [rB r] := by
 unfold m_laws_eqWrite at h
 exact sgo 31 [.tmp 4] Tryz.func168
instance : HasC 168 (type_of% @c168) := ⟨@c168⟩

theorem c126 (p0 p1 r) (h : m_laws_eqWriteS p0 p1 = some r) : Sc 126 [aL M.Write.en p0, aL M.Write.en p1] [rB r] := by
 have i1 := inv fun m s => ∃ v5 : Int, (s.t 0 = vL M.Write.en p0 ∧ s.t 1 = vL M.Write.en p1 ∧ s.t 5 = vI v5) ∧ m_laws_eqWriteS_L1 p0 p1 m v5 = some r
 have e1 := @m_laws_eqWriteS_L1.eq_2
 unfold m_laws_eqWriteS at h
 exact sgo 27 [.tmp 4] Tryz.func126
instance : HasC 126 (type_of% @c126) := ⟨@c126⟩

theorem c85 (p0 p1 r) (h : m_laws_eqOutbox p0 p1 = some r) : Sc 85 [aX (M.Outbox.en p0), aX (M.Outbox.en p1)] [rB r] := by
 unfold m_laws_eqOutbox at h
 exact sgo 21 [.tmp 4] Tryz.func85
instance : HasC 85 (type_of% @c85) := ⟨@c85⟩

theorem c53 (p0 p1 r) (h : m_laws_eqSync p0 p1 = some r) : Sc 53 [aX (M.Sync.en p0), aX (M.Sync.en p1)] [rB r] := by
 unfold m_laws_eqSync at h
 exact sgo 21 [.tmp 4] Tryz.func53
instance : HasC 53 (type_of% @c53) := ⟨@c53⟩

theorem c21 (p0 p1 r) (h : m_laws_eqReplica p0 p1 = some r) : Sc 21 [aX (M.Replica.en p0), aX (M.Replica.en p1)] [rB r] := by
 unfold m_laws_eqReplica at h
 exact sgo 22 [.tmp 4] Tryz.func21
instance : HasC 21 (type_of% @c21) := ⟨@c21⟩

theorem c12 (p0 p1 r) (h : m_laws_eqBucket p0 p1 = some r) : Sc 12 [aX (M.Bucket.en p0), aX (M.Bucket.en p1)] [rB r] := by
 unfold m_laws_eqBucket at h
 exact sgo 49 [.tmp 4] Tryz.func12
instance : HasC 12 (type_of% @c12) := ⟨@c12⟩

end Go.Proofs.YtmpbibngijnfeaaGreat.gen
