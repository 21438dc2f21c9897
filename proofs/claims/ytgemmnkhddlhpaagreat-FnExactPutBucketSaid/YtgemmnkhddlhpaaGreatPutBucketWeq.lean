/-
  Helper text: walks: each function's contract out of its model. No conditions beyond those of each contract.
-/
import Derived.Test.YtgemmnkhddlhpaaGreatPutBucketTi
namespace Go.Proofs.YtgemmnkhddlhpaaGreat.gen
open Go Go.Sh
set_option linter.unusedVariables false
set_option linter.unusedSimpArgs false
set_option maxRecDepth 20000
set_option maxHeartbeats 4000000
theorem c58 (p0 p1 r) (h : m_laws_eqRegistration p0 p1 = some r) : Sc 58 [aX (M.Registration.en p0), aX (M.Registration.en p1)] [rB r] := by
 unfold m_laws_eqRegistration at h
 exact sgo 25 [.tmp 4] Tryz.func58
instance : HasC 58 (type_of% @c58) := ⟨@c58⟩

theorem c99 (p0 p1 r) (h : m_laws_eqByteS p0 p1 = some r) : Sc 99 [aL enB p0, aL enB p1] [rB r] := by
 have i1 := inv fun m s => ∃ v5 : Int, (s.t 0 = vL enB p0 ∧ s.t 1 = vL enB p1 ∧ s.t 5 = vI v5) ∧ m_laws_eqByteS_L1 p0 p1 m v5 = some r
 have e1 := @m_laws_eqByteS_L1.eq_2
 unfold m_laws_eqByteS at h
 exact sgo 26 [.tmp 4] Tryz.func99
instance : HasC 99 (type_of% @c99) := ⟨@c99⟩

theorem c414 (p0 p1 r) (h : m_laws_eqResponse p0 p1 = some r) : Sc 414 [aX (M.Response.en p0), aX (M.Response.en p1)] [rB r] := by
 unfold m_laws_eqResponse at h
 exact sgo 31 [.tmp 4] Tryz.func414
instance : HasC 414 (type_of% @c414) := ⟨@c414⟩

theorem c374 (p0 p1 r) (h : m_laws_eqCached p0 p1 = some r) : Sc 374 [aX (M.Cached.en p0), aX (M.Cached.en p1)] [rB r] := by
 unfold m_laws_eqCached at h
 exact sgo 21 [.tmp 4] Tryz.func374
instance : HasC 374 (type_of% @c374) := ⟨@c374⟩

theorem c304 (p0 p1 r) (h : m_laws_eqCachedS p0 p1 = some r) : Sc 304 [aL M.Cached.en p0, aL M.Cached.en p1] [rB r] := by
 have i1 := inv fun m s => ∃ v5 : Int, (s.t 0 = vL M.Cached.en p0 ∧ s.t 1 = vL M.Cached.en p1 ∧ s.t 5 = vI v5) ∧ m_laws_eqCachedS_L1 p0 p1 m v5 = some r
 have e1 := @m_laws_eqCachedS_L1.eq_2
 unfold m_laws_eqCachedS at h
 exact sgo 27 [.tmp 4] Tryz.func304
instance : HasC 304 (type_of% @c304) := ⟨@c304⟩

theorem c210 (p0 p1 r) (h : m_laws_eqCache p0 p1 = some r) : Sc 210 [aX (M.Cache.en p0), aX (M.Cache.en p1)] [rB r] := by
 unfold m_laws_eqCache at h
 exact sgo 16 [.tmp 4] Tryz.func210
instance : HasC 210 (type_of% @c210) := ⟨@c210⟩

theorem c114 (p0 p1 r) (h : m_laws_eqCacheS p0 p1 = some r) : Sc 114 [aL M.Cache.en p0, aL M.Cache.en p1] [rB r] := by
 have i1 := inv fun m s => ∃ v5 : Int, (s.t 0 = vL M.Cache.en p0 ∧ s.t 1 = vL M.Cache.en p1 ∧ s.t 5 = vI v5) ∧ m_laws_eqCacheS_L1 p0 p1 m v5 = some r
 have e1 := @m_laws_eqCacheS_L1.eq_2
 unfold m_laws_eqCacheS at h
 exact sgo 27 [.tmp 4] Tryz.func114
instance : HasC 114 (type_of% @c114) := ⟨@c114⟩

theorem c40 (p0 p1 r) (h : m_laws_eqCacheSet p0 p1 = some r) : Sc 40 [aX (M.CacheSet.en p0), aX (M.CacheSet.en p1)] [rB r] := by
 unfold m_laws_eqCacheSet at h
 exact sgo 11 [.tmp 4] Tryz.func40
instance : HasC 40 (type_of% @c40) := ⟨@c40⟩

theorem c370 (p0 p1 r) (h : m_laws_eqKey p0 p1 = some r) : Sc 370 [aX (M.Key.en p0), aX (M.Key.en p1)] [rB r] := by
 unfold m_laws_eqKey at h
 exact sgo 20 [.tmp 4] Tryz.func370
instance : HasC 370 (type_of% @c370) := ⟨@c370⟩

theorem c433 (p0 p1 r) (h : m_laws_eqField p0 p1 = some r) : Sc 433 [aX (M.Field.en p0), aX (M.Field.en p1)] [rB r] := by
 unfold m_laws_eqField at h
 exact sgo 15 [.tmp 4] Tryz.func433
instance : HasC 433 (type_of% @c433) := ⟨@c433⟩

theorem c411 (p0 p1 r) (h : m_laws_eqFieldS p0 p1 = some r) : Sc 411 [aL M.Field.en p0, aL M.Field.en p1] [rB r] := by
 have i1 := inv fun m s => ∃ v5 : Int, (s.t 0 = vL M.Field.en p0 ∧ s.t 1 = vL M.Field.en p1 ∧ s.t 5 = vI v5) ∧ m_laws_eqFieldS_L1 p0 p1 m v5 = some r
 have e1 := @m_laws_eqFieldS_L1.eq_2
 unfold m_laws_eqFieldS at h
 exact sgo 27 [.tmp 4] Tryz.func411
instance : HasC 411 (type_of% @c411) := ⟨@c411⟩

theorem c371 (p0 p1 r) (h : m_laws_eqRecord p0 p1 = some r) : Sc 371 [aX (M.Record.en p0), aX (M.Record.en p1)] [rB r] := by
 unfold m_laws_eqRecord at h
 exact sgo 11 [.tmp 4] Tryz.func371
instance : HasC 371 (type_of% @c371) := ⟨@c371⟩

theorem c299 (p0 p1 r) (h : m_laws_eqItem p0 p1 = some r) : Sc 299 [aX (M.Item.en p0), aX (M.Item.en p1)] [rB r] := by
 unfold m_laws_eqItem at h
 exact sgo 17 [.tmp 4] Tryz.func299
instance : HasC 299 (type_of% @c299) := ⟨@c299⟩

theorem c203 (p0 p1 r) (h : m_laws_eqItemS p0 p1 = some r) : Sc 203 [aL M.Item.en p0, aL M.Item.en p1] [rB r] := by
 have i1 := inv fun m s => ∃ v5 : Int, (s.t 0 = vL M.Item.en p0 ∧ s.t 1 = vL M.Item.en p1 ∧ s.t 5 = vI v5) ∧ m_laws_eqItemS_L1 p0 p1 m v5 = some r
 have e1 := @m_laws_eqItemS_L1.eq_2
 unfold m_laws_eqItemS at h
 exact sgo 27 [.tmp 4] Tryz.func203
instance : HasC 203 (type_of% @c203) := ⟨@c203⟩

theorem c107 (p0 p1 r) (h : m_laws_eqStore p0 p1 = some r) : Sc 107 [aX (M.Store.en p0), aX (M.Store.en p1)] [rB r] := by
 unfold m_laws_eqStore at h
 exact sgo 21 [.tmp 4] Tryz.func107
instance : HasC 107 (type_of% @c107) := ⟨@c107⟩

theorem c193 (p0 p1 r) (h : m_laws_eqStoreS p0 p1 = some r) : Sc 193 [aL M.Store.en p0, aL M.Store.en p1] [rB r] := by
 have i1 := inv fun m s => ∃ v5 : Int, (s.t 0 = vL M.Store.en p0 ∧ s.t 1 = vL M.Store.en p1 ∧ s.t 5 = vI v5) ∧ m_laws_eqStoreS_L1 p0 p1 m v5 = some r
 have e1 := @m_laws_eqStoreS_L1.eq_2
 unfold m_laws_eqStoreS at h
 exact sgo 27 [.tmp 4] Tryz.func193
instance : HasC 193 (type_of% @c193) := ⟨@c193⟩

theorem c294 (p0 p1 r) (h : m_laws_eqIndexDef p0 p1 = some r) : Sc 294 [aX (M.IndexDef.en p0), aX (M.IndexDef.en p1)] [rB r] := by
 unfold m_laws_eqIndexDef at h
 exact sgo 15 [.tmp 4] Tryz.func294
instance : HasC 294 (type_of% @c294) := ⟨@c294⟩

theorem c194 (p0 p1 r) (h : m_laws_eqIndexDefS p0 p1 = some r) : Sc 194 [aL M.IndexDef.en p0, aL M.IndexDef.en p1] [rB r] := by
 have i1 := inv fun m s => ∃ v5 : Int, (s.t 0 = vL M.IndexDef.en p0 ∧ s.t 1 = vL M.IndexDef.en p1 ∧ s.t 5 = vI v5) ∧ m_laws_eqIndexDefS_L1 p0 p1 m v5 = some r
 have e1 := @m_laws_eqIndexDefS_L1.eq_2
 unfold m_laws_eqIndexDefS at h
 exact sgo 27 [.tmp 4] Tryz.func194
instance : HasC 194 (type_of% @c194) := ⟨@c194⟩

theorem c98 (p0 p1 r) (h : m_laws_eqDatabase p0 p1 = some r) : Sc 98 [aX (M.Database.en p0), aX (M.Database.en p1)] [rB r] := by
 unfold m_laws_eqDatabase at h
 exact sgo 27 [.tmp 4] Tryz.func98
instance : HasC 98 (type_of% @c98) := ⟨@c98⟩

theorem c26 (p0 p1 r) (h : m_laws_eqDisk p0 p1 = some r) : Sc 26 [aX (M.Disk.en p0), aX (M.Disk.en p1)] [rB r] := by
 unfold m_laws_eqDisk at h
 exact sgo 22 [.tmp 4] Tryz.func26
instance : HasC 26 (type_of% @c26) := ⟨@c26⟩

theorem c365 (p0 p1 r) (h : m_laws_eqWrite p0 p1 = some r) : Sc 365 [aX (M.Write.en p0), aX (M.Write.en p1)] [rB r] := by
 unfold m_laws_eqWrite at h
 exact sgo 31 [.tmp 4] Tryz.func365
instance : HasC 365 (type_of% @c365) := ⟨@c365⟩

theorem c291 (p0 p1 r) (h : m_laws_eqWriteS p0 p1 = some r) : Sc 291 [aL M.Write.en p0, aL M.Write.en p1] [rB r] := by
 have i1 := inv fun m s => ∃ v5 : Int, (s.t 0 = vL M.Write.en p0 ∧ s.t 1 = vL M.Write.en p1 ∧ s.t 5 = vI v5) ∧ m_laws_eqWriteS_L1 p0 p1 m v5 = some r
 have e1 := @m_laws_eqWriteS_L1.eq_2
 unfold m_laws_eqWriteS at h
 exact sgo 27 [.tmp 4] Tryz.func291
instance : HasC 291 (type_of% @c291) := ⟨@c291⟩

theorem c204 (p0 p1 r) (h : m_laws_eqOutbox p0 p1 = some r) : Sc 204 [aX (M.Outbox.en p0), aX (M.Outbox.en p1)] [rB r] := by
 unfold m_laws_eqOutbox at h
 exact sgo 21 [.tmp 4] Tryz.func204
instance : HasC 204 (type_of% @c204) := ⟨@c204⟩

theorem c108 (p0 p1 r) (h : m_laws_eqSync p0 p1 = some r) : Sc 108 [aX (M.Sync.en p0), aX (M.Sync.en p1)] [rB r] := by
 unfold m_laws_eqSync at h
 exact sgo 21 [.tmp 4] Tryz.func108
instance : HasC 108 (type_of% @c108) := ⟨@c108⟩

theorem c32 (p0 p1 r) (h : m_laws_eqReplica p0 p1 = some r) : Sc 32 [aX (M.Replica.en p0), aX (M.Replica.en p1)] [rB r] := by
 unfold m_laws_eqReplica at h
 exact sgo 22 [.tmp 4] Tryz.func32
instance : HasC 32 (type_of% @c32) := ⟨@c32⟩

theorem c12 (p0 p1 r) (h : m_laws_eqBucket p0 p1 = some r) : Sc 12 [aX (M.Bucket.en p0), aX (M.Bucket.en p1)] [rB r] := by
 unfold m_laws_eqBucket at h
 exact sgo 49 [.tmp 4] Tryz.func12
instance : HasC 12 (type_of% @c12) := ⟨@c12⟩

theorem c128 (p0 p1 r) (h : m_laws_eqBucketS p0 p1 = some r) : Sc 128 [aL M.Bucket.en p0, aL M.Bucket.en p1] [rB r] := by
 have i1 := inv fun m s => ∃ v5 : Int, (s.t 0 = vL M.Bucket.en p0 ∧ s.t 1 = vL M.Bucket.en p1 ∧ s.t 5 = vI v5) ∧ m_laws_eqBucketS_L1 p0 p1 m v5 = some r
 have e1 := @m_laws_eqBucketS_L1.eq_2
 unfold m_laws_eqBucketS at h
 exact sgo 27 [.tmp 4] Tryz.func128
instance : HasC 128 (type_of% @c128) := ⟨@c128⟩

theorem c46 (p0 p1 r) (h : m_laws_eqStorage p0 p1 = some r) : Sc 46 [aX (M.Storage.en p0), aX (M.Storage.en p1)] [rB r] := by
 unfold m_laws_eqStorage at h
 exact sgo 11 [.tmp 4] Tryz.func46
instance : HasC 46 (type_of% @c46) := ⟨@c46⟩

end Go.Proofs.YtgemmnkhddlhpaaGreat.gen
