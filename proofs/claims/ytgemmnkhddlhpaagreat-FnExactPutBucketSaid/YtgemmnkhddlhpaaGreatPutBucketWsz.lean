/-
  Helper text: walks: each function's contract out of its model. No conditions beyond those of each contract.
-/
import Derived.Test.YtgemmnkhddlhpaaGreatPutBucketTi
namespace Go.Proofs.YtgemmnkhddlhpaaGreat.gen
open Go Go.Sh
set_option linter.unusedVariables false
set_option linter.unusedSimpArgs false
set_option maxRecDepth 20000
set_option maxHeartbeats 4000000
theorem c35 (p0 p1 r) (h : m_laws_szRegistration p0 p1 = some r) : Sc 35 [aX (M.Registration.en p0), aI p1] [rI r] := by
 unfold m_laws_szRegistration at h
 exact sgo 13 [.tmp 4] Tryz.func35
instance : HasC 35 (type_of% @c35) := ⟨@c35⟩

theorem c91 (p0 p1 r) (h : m_laws_szByteS p0 p1 = some r) : Sc 91 [aL enB p0, aI p1] [rI r] := by
 unfold m_laws_szByteS at h
 exact sgo 12 [.tmp 4] Tryz.func91
instance : HasC 91 (type_of% @c91) := ⟨@c91⟩

theorem c412 (p0 p1 r) (h : m_laws_szResponse p0 p1 = some r) : Sc 412 [aX (M.Response.en p0), aI p1] [rI r] := by
 unfold m_laws_szResponse at h
 exact sgo 12 [.tmp 4] Tryz.func412
instance : HasC 412 (type_of% @c412) := ⟨@c412⟩

theorem c372 (p0 p1 r) (h : m_laws_szCached p0 p1 = some r) : Sc 372 [aX (M.Cached.en p0), aI p1] [rI r] := by
 unfold m_laws_szCached at h
 exact sgo 26 [.tmp 4] Tryz.func372
instance : HasC 372 (type_of% @c372) := ⟨@c372⟩

theorem c301 (p0 p1 r) (h : m_laws_szCachedS p0 p1 = some r) : Sc 301 [aL M.Cached.en p0, aI p1] [rI r] := by
 have i1 := inv fun m s => ∃ v1 : Int, ∃ v5 : Int, (s.t 0 = vL M.Cached.en p0 ∧ s.t 1 = vI v1 ∧ s.t 5 = vI v5) ∧ m_laws_szCachedS_L1 p0 m v1 v5 = some r
 have e1 := @m_laws_szCachedS_L1.eq_2
 unfold m_laws_szCachedS at h
 exact sgo 27 [.tmp 4] Tryz.func301
instance : HasC 301 (type_of% @c301) := ⟨@c301⟩

theorem c207 (p0 p1 r) (h : m_laws_szCache p0 p1 = some r) : Sc 207 [aX (M.Cache.en p0), aI p1] [rI r] := by
 unfold m_laws_szCache at h
 exact sgo 12 [.tmp 4] Tryz.func207
instance : HasC 207 (type_of% @c207) := ⟨@c207⟩

theorem c111 (p0 p1 r) (h : m_laws_szCacheS p0 p1 = some r) : Sc 111 [aL M.Cache.en p0, aI p1] [rI r] := by
 have i1 := inv fun m s => ∃ v1 : Int, ∃ v5 : Int, (s.t 0 = vL M.Cache.en p0 ∧ s.t 1 = vI v1 ∧ s.t 5 = vI v5) ∧ m_laws_szCacheS_L1 p0 m v1 v5 = some r
 have e1 := @m_laws_szCacheS_L1.eq_2
 unfold m_laws_szCacheS at h
 exact sgo 27 [.tmp 4] Tryz.func111
instance : HasC 111 (type_of% @c111) := ⟨@c111⟩

theorem c34 (p0 p1 r) (h : m_laws_szCacheSet p0 p1 = some r) : Sc 34 [aX (M.CacheSet.en p0), aI p1] [rI r] := by
 unfold m_laws_szCacheSet at h
 exact sgo 12 [.tmp 4] Tryz.func34
instance : HasC 34 (type_of% @c34) := ⟨@c34⟩

theorem c366 (p0 p1 r) (h : m_laws_szKey p0 p1 = some r) : Sc 366 [aX (M.Key.en p0), aI p1] [rI r] := by
 unfold m_laws_szKey at h
 exact sgo 13 [.tmp 4] Tryz.func366
instance : HasC 366 (type_of% @c366) := ⟨@c366⟩

theorem c431 (p0 p1 r) (h : m_laws_szField p0 p1 = some r) : Sc 431 [aX (M.Field.en p0), aI p1] [rI r] := by
 unfold m_laws_szField at h
 exact sgo 13 [.tmp 4] Tryz.func431
instance : HasC 431 (type_of% @c431) := ⟨@c431⟩

theorem c409 (p0 p1 r) (h : m_laws_szFieldS p0 p1 = some r) : Sc 409 [aL M.Field.en p0, aI p1] [rI r] := by
 have i1 := inv fun m s => ∃ v1 : Int, ∃ v5 : Int, (s.t 0 = vL M.Field.en p0 ∧ s.t 1 = vI v1 ∧ s.t 5 = vI v5) ∧ m_laws_szFieldS_L1 p0 m v1 v5 = some r
 have e1 := @m_laws_szFieldS_L1.eq_2
 unfold m_laws_szFieldS at h
 exact sgo 27 [.tmp 4] Tryz.func409
instance : HasC 409 (type_of% @c409) := ⟨@c409⟩

theorem c367 (p0 p1 r) (h : m_laws_szRecord p0 p1 = some r) : Sc 367 [aX (M.Record.en p0), aI p1] [rI r] := by
 unfold m_laws_szRecord at h
 exact sgo 12 [.tmp 4] Tryz.func367
instance : HasC 367 (type_of% @c367) := ⟨@c367⟩

theorem c295 (p0 p1 r) (h : m_laws_szItem p0 p1 = some r) : Sc 295 [aX (M.Item.en p0), aI p1] [rI r] := by
 unfold m_laws_szItem at h
 exact sgo 18 [.tmp 4] Tryz.func295
instance : HasC 295 (type_of% @c295) := ⟨@c295⟩

theorem c197 (p0 p1 r) (h : m_laws_szItemS p0 p1 = some r) : Sc 197 [aL M.Item.en p0, aI p1] [rI r] := by
 have i1 := inv fun m s => ∃ v1 : Int, ∃ v5 : Int, (s.t 0 = vL M.Item.en p0 ∧ s.t 1 = vI v1 ∧ s.t 5 = vI v5) ∧ m_laws_szItemS_L1 p0 m v1 v5 = some r
 have e1 := @m_laws_szItemS_L1.eq_2
 unfold m_laws_szItemS at h
 exact sgo 27 [.tmp 4] Tryz.func197
instance : HasC 197 (type_of% @c197) := ⟨@c197⟩

theorem c102 (p0 p1 r) (h : m_laws_szStore p0 p1 = some r) : Sc 102 [aX (M.Store.en p0), aI p1] [rI r] := by
 unfold m_laws_szStore at h
 exact sgo 19 [.tmp 4] Tryz.func102
instance : HasC 102 (type_of% @c102) := ⟨@c102⟩

theorem c188 (p0 p1 r) (h : m_laws_szStoreS p0 p1 = some r) : Sc 188 [aL M.Store.en p0, aI p1] [rI r] := by
 have i1 := inv fun m s => ∃ v1 : Int, ∃ v5 : Int, (s.t 0 = vL M.Store.en p0 ∧ s.t 1 = vI v1 ∧ s.t 5 = vI v5) ∧ m_laws_szStoreS_L1 p0 m v1 v5 = some r
 have e1 := @m_laws_szStoreS_L1.eq_2
 unfold m_laws_szStoreS at h
 exact sgo 27 [.tmp 4] Tryz.func188
instance : HasC 188 (type_of% @c188) := ⟨@c188⟩

theorem c292 (p0 p1 r) (h : m_laws_szIndexDef p0 p1 = some r) : Sc 292 [aX (M.IndexDef.en p0), aI p1] [rI r] := by
 unfold m_laws_szIndexDef at h
 exact sgo 20 [.tmp 4] Tryz.func292
instance : HasC 292 (type_of% @c292) := ⟨@c292⟩

theorem c189 (p0 p1 r) (h : m_laws_szIndexDefS p0 p1 = some r) : Sc 189 [aL M.IndexDef.en p0, aI p1] [rI r] := by
 have i1 := inv fun m s => ∃ v1 : Int, ∃ v5 : Int, (s.t 0 = vL M.IndexDef.en p0 ∧ s.t 1 = vI v1 ∧ s.t 5 = vI v5) ∧ m_laws_szIndexDefS_L1 p0 m v1 v5 = some r
 have e1 := @m_laws_szIndexDefS_L1.eq_2
 unfold m_laws_szIndexDefS at h
 exact sgo 27 [.tmp 4] Tryz.func189
instance : HasC 189 (type_of% @c189) := ⟨@c189⟩

theorem c90 (p0 p1 r) (h : m_laws_szDatabase p0 p1 = some r) : Sc 90 [aX (M.Database.en p0), aI p1] [rI r] := by
 unfold m_laws_szDatabase at h
 exact sgo 25 [.tmp 4] Tryz.func90
instance : HasC 90 (type_of% @c90) := ⟨@c90⟩

theorem c21 (p0 p1 r) (h : m_laws_szDisk p0 p1 = some r) : Sc 21 [aX (M.Disk.en p0), aI p1] [rI r] := by
 unfold m_laws_szDisk at h
 exact sgo 18 [.tmp 4] Tryz.func21
instance : HasC 21 (type_of% @c21) := ⟨@c21⟩

theorem c351 (p0 p1 r) (h : m_laws_szWrite p0 p1 = some r) : Sc 351 [aX (M.Write.en p0), aI p1] [rI r] := by
 unfold m_laws_szWrite at h
 exact sgo 19 [.tmp 4] Tryz.func351
instance : HasC 351 (type_of% @c351) := ⟨@c351⟩

theorem c269 (p0 p1 r) (h : m_laws_szWriteS p0 p1 = some r) : Sc 269 [aL M.Write.en p0, aI p1] [rI r] := by
 have i1 := inv fun m s => ∃ v1 : Int, ∃ v5 : Int, (s.t 0 = vL M.Write.en p0 ∧ s.t 1 = vI v1 ∧ s.t 5 = vI v5) ∧ m_laws_szWriteS_L1 p0 m v1 v5 = some r
 have e1 := @m_laws_szWriteS_L1.eq_2
 unfold m_laws_szWriteS at h
 exact sgo 27 [.tmp 4] Tryz.func269
instance : HasC 269 (type_of% @c269) := ⟨@c269⟩

theorem c198 (p0 p1 r) (h : m_laws_szOutbox p0 p1 = some r) : Sc 198 [aX (M.Outbox.en p0), aI p1] [rI r] := by
 unfold m_laws_szOutbox at h
 exact sgo 12 [.tmp 4] Tryz.func198
instance : HasC 198 (type_of% @c198) := ⟨@c198⟩

theorem c103 (p0 p1 r) (h : m_laws_szSync p0 p1 = some r) : Sc 103 [aX (M.Sync.en p0), aI p1] [rI r] := by
 unfold m_laws_szSync at h
 exact sgo 12 [.tmp 4] Tryz.func103
instance : HasC 103 (type_of% @c103) := ⟨@c103⟩

theorem c28 (p0 p1 r) (h : m_laws_szReplica p0 p1 = some r) : Sc 28 [aX (M.Replica.en p0), aI p1] [rI r] := by
 unfold m_laws_szReplica at h
 exact sgo 18 [.tmp 4] Tryz.func28
instance : HasC 28 (type_of% @c28) := ⟨@c28⟩

theorem c20 (p0 p1 r) (h : m_laws_szBucket p0 p1 = some r) : Sc 20 [aX (M.Bucket.en p0), aI p1] [rI r] := by
 unfold m_laws_szBucket at h
 exact sgo 44 [.tmp 4] Tryz.func20
instance : HasC 20 (type_of% @c20) := ⟨@c20⟩

theorem c116 (p0 p1 r) (h : m_laws_szBucketS p0 p1 = some r) : Sc 116 [aL M.Bucket.en p0, aI p1] [rI r] := by
 have i1 := inv fun m s => ∃ v1 : Int, ∃ v5 : Int, (s.t 0 = vL M.Bucket.en p0 ∧ s.t 1 = vI v1 ∧ s.t 5 = vI v5) ∧ m_laws_szBucketS_L1 p0 m v1 v5 = some r
 have e1 := @m_laws_szBucketS_L1.eq_2
 unfold m_laws_szBucketS at h
 exact sgo 27 [.tmp 4] Tryz.func116
instance : HasC 116 (type_of% @c116) := ⟨@c116⟩

theorem c42 (p0 p1 r) (h : m_laws_szStorage p0 p1 = some r) : Sc 42 [aX (M.Storage.en p0), aI p1] [rI r] := by
 unfold m_laws_szStorage at h
 exact sgo 12 [.tmp 4] Tryz.func42
instance : HasC 42 (type_of% @c42) := ⟨@c42⟩

end Go.Proofs.YtgemmnkhddlhpaaGreat.gen
