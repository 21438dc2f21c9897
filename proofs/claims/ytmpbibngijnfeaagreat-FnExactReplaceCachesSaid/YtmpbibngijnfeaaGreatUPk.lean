/-
  Helper text: plain laws of the functions. No conditions beyond those of each law.
-/
import Derived.Test.YtmpbibngijnfeaaGreatUPi
namespace Go.Proofs.YtmpbibngijnfeaaGreat.gen
open Go Go.Sh
set_option linter.unusedVariables false
set_option linter.unusedSimpArgs false
def nChg (b o : M.Bucket) : M.Bucket × Bool := if nBucket b = true then (if nBucket o = true then (o, true) else (b, false)) else (b, false)
theorem nChg_ok {b o : M.Bucket} (hb : b.ok) (ho : o.ok) : M.Bucket.ok (nChg b o).1 := by
  unfold nChg
  split
  · split
    · exact ho
    · exact hb
  · exact hb
theorem nChg_sz (b o : M.Bucket) : M.Bucket.sz (nChg b o).1 ≤ M.Bucket.sz b + M.Bucket.sz o := by
  unfold nChg
  split
  · split <;> simp only <;> omega
  · simp only; omega
theorem p_spec_l27Change {b o : M.Bucket} (hb : b.ok) (ho : o.ok) (zb : M.Bucket.sz b ≤ 1048576) (zc : M.Bucket.sz o ≤ 1073741824) (zo : M.Database.sz o.Disk.Base ≤ 1048576) : m_spec_l27Change b o = some (nChg b o) := by
  unfold m_spec_l27Change nChg
  rw [p_spec_IsBucket hb zb, Option.bind_some, p_spec_l27Copy b (by omega), p_spec_IsBucket' ho zo]
  cases nBucket b
  · simp
  · cases nBucket o <;> simp
theorem nChg_pass (b o : M.Bucket) : ((some (nChg b o)).bind fun x => (if x.2 = true then (some (o, true)) else (some (x.1, false)))) = some (nChg b o) := by
  unfold nChg
  cases nBucket b <;> cases nBucket o <;> rfl
theorem p_impl_changedBucket {b o : M.Bucket} (hb : b.ok) (ho : o.ok) (zb : M.Bucket.sz b ≤ 1048576) (zc : M.Bucket.sz o ≤ 1073741824) (zo : M.Database.sz o.Disk.Base ≤ 1048576) : m_impl_changedBucket b o = some (nChg b o) := by
  unfold m_impl_changedBucket nChg
  rw [p_impl_IsBucket hb zb, Option.bind_some, p_impl_copyBucket b (by omega), p_impl_IsBucket' ho zo, p_impl_copyBucket o (by omega)]
  cases nBucket b
  · simp
  · cases nBucket o <;> simp

def nWithDisk (b : M.Bucket) (k : M.Disk) : M.Bucket := (⟨b.Site, b.Top, b.Registration, b.Caches, k, b.Replica, b.LastUsed, b.Persistent⟩ : M.Bucket)
theorem nWithDisk_ok {b : M.Bucket} {k : M.Disk} (hb : b.ok) (hk : k.ok) : (nWithDisk b k).ok := ⟨hb.Site, hb.Top, hb.Registration, hb.Caches, hk, hb.Replica, hb.LastUsed⟩
theorem nWithDisk_sz (b : M.Bucket) (k : M.Disk) : M.Bucket.sz (nWithDisk b k) ≤ M.Bucket.sz b + M.Disk.sz k := by
  simp only [nWithDisk, M.Bucket.sz]
  omega
theorem p_spec_ReplaceDisk {b : M.Bucket} {k : M.Disk} (hb : b.ok) (hk : k.ok) (zb : M.Bucket.sz b ≤ 1048576) (zs : M.Disk.sz k ≤ 536870912) (zo : M.Database.sz (nWithDisk b k).Disk.Base ≤ 1048576) : m_spec_ReplaceDisk b k = some (nChg b (nWithDisk b k)) := by
  have zr := nWithDisk_sz b k
  unfold m_spec_ReplaceDisk
  rw [p_spec_l27Copy b (by omega), Option.bind_some, p_spec_l12Copy k (by omega), Option.bind_some]
  have e := p_spec_l27Change hb (nWithDisk_ok hb hk) zb (show M.Bucket.sz (nWithDisk b k) ≤ 1073741824 by omega) zo
  have e2 := nChg_pass b (nWithDisk b k)
  unfold nWithDisk at e e2 ⊢
  rw [e]
  exact e2
theorem p_impl_ReplaceDisk {b : M.Bucket} {k : M.Disk} (hb : b.ok) (hk : k.ok) (zb : M.Bucket.sz b ≤ 1048576) (zs : M.Disk.sz k ≤ 536870912) (zo : M.Database.sz (nWithDisk b k).Disk.Base ≤ 1048576) : m_impl_ReplaceDisk b k = some (nChg b (nWithDisk b k)) := by
  have zr := nWithDisk_sz b k
  unfold m_impl_ReplaceDisk
  have e := p_impl_changedBucket hb (nWithDisk_ok hb hk) zb (show M.Bucket.sz (nWithDisk b k) ≤ 1073741824 by omega) zo
  unfold nWithDisk at e
  rw [e]
  rfl

def nWithReplica (b : M.Bucket) (r : M.Replica) : M.Bucket := (⟨b.Site, b.Top, b.Registration, b.Caches, b.Disk, r, b.LastUsed, b.Persistent⟩ : M.Bucket)
theorem nWithReplica_ok {b : M.Bucket} {r : M.Replica} (hb : b.ok) (hr : r.ok) : (nWithReplica b r).ok := ⟨hb.Site, hb.Top, hb.Registration, hb.Caches, hb.Disk, hr, hb.LastUsed⟩
theorem nWithReplica_sz (b : M.Bucket) (r : M.Replica) : M.Bucket.sz (nWithReplica b r) ≤ M.Bucket.sz b + M.Replica.sz r := by
  simp only [nWithReplica, M.Bucket.sz]
  omega
theorem p_spec_ReplaceReplica {b : M.Bucket} {r : M.Replica} (hb : b.ok) (hr : r.ok) (zb : M.Bucket.sz b ≤ 1048576) (zs : M.Replica.sz r ≤ 536870912) (zo : M.Database.sz (nWithReplica b r).Disk.Base ≤ 1048576) : m_spec_ReplaceReplica b r = some (nChg b (nWithReplica b r)) := by
  have zr := nWithReplica_sz b r
  unfold m_spec_ReplaceReplica
  rw [p_spec_l27Copy b (by omega), Option.bind_some, p_spec_l23Copy r (by omega), Option.bind_some]
  have e := p_spec_l27Change hb (nWithReplica_ok hb hr) zb (show M.Bucket.sz (nWithReplica b r) ≤ 1073741824 by omega) zo
  have e2 := nChg_pass b (nWithReplica b r)
  unfold nWithReplica at e e2 ⊢
  rw [e]
  exact e2
theorem p_impl_ReplaceReplica {b : M.Bucket} {r : M.Replica} (hb : b.ok) (hr : r.ok) (zb : M.Bucket.sz b ≤ 1048576) (zs : M.Replica.sz r ≤ 536870912) (zo : M.Database.sz (nWithReplica b r).Disk.Base ≤ 1048576) : m_impl_ReplaceReplica b r = some (nChg b (nWithReplica b r)) := by
  have zr := nWithReplica_sz b r
  unfold m_impl_ReplaceReplica
  have e := p_impl_changedBucket hb (nWithReplica_ok hb hr) zb (show M.Bucket.sz (nWithReplica b r) ≤ 1073741824 by omega) zo
  unfold nWithReplica at e
  rw [e]
  rfl

def nWithCaches (b : M.Bucket) (s : M.CacheSet) (r : M.Registration) : M.Bucket := (⟨b.Site, b.Top, r, s, b.Disk, b.Replica, b.LastUsed, b.Persistent⟩ : M.Bucket)
theorem nWithCaches_ok {b : M.Bucket} {s : M.CacheSet} {r : M.Registration} (hb : b.ok) (hs : s.ok) (hr : r.ok) : (nWithCaches b s r).ok := ⟨hb.Site, hb.Top, hr, hs, hb.Disk, hb.Replica, hb.LastUsed⟩
theorem nWithCaches_sz (b : M.Bucket) (s : M.CacheSet) (r : M.Registration) : M.Bucket.sz (nWithCaches b s r) ≤ M.Bucket.sz b + (M.CacheSet.sz s + M.Registration.sz r) := by
  simp only [nWithCaches, M.Bucket.sz]
  omega
theorem p_spec_ReplaceCaches {b : M.Bucket} {s : M.CacheSet} {r : M.Registration} (hb : b.ok) (hs : s.ok) (hr : r.ok) (zb : M.Bucket.sz b ≤ 1048576) (zs : (M.CacheSet.sz s + M.Registration.sz r) ≤ 536870912) (zo : M.Database.sz (nWithCaches b s r).Disk.Base ≤ 1048576) : m_spec_ReplaceCaches b s r = some (nChg b (nWithCaches b s r)) := by
  have zr := nWithCaches_sz b s r
  unfold m_spec_ReplaceCaches
  rw [p_spec_l27Copy b (by omega), Option.bind_some, p_spec_l17Copy s (by omega), Option.bind_some]
  have e := p_spec_l27Change hb (nWithCaches_ok hb hs hr) zb (show M.Bucket.sz (nWithCaches b s r) ≤ 1073741824 by omega) zo
  have e2 := nChg_pass b (nWithCaches b s r)
  unfold nWithCaches at e e2 ⊢
  rw [e]
  exact e2
theorem p_impl_ReplaceCaches {b : M.Bucket} {s : M.CacheSet} {r : M.Registration} (hb : b.ok) (hs : s.ok) (hr : r.ok) (zb : M.Bucket.sz b ≤ 1048576) (zs : (M.CacheSet.sz s + M.Registration.sz r) ≤ 536870912) (zo : M.Database.sz (nWithCaches b s r).Disk.Base ≤ 1048576) : m_impl_ReplaceCaches b s r = some (nChg b (nWithCaches b s r)) := by
  have zr := nWithCaches_sz b s r
  unfold m_impl_ReplaceCaches
  have e := p_impl_changedBucket hb (nWithCaches_ok hb hs hr) zb (show M.Bucket.sz (nWithCaches b s r) ≤ 1073741824 by omega) zo
  unfold nWithCaches at e
  rw [e]
  rfl

end Go.Proofs.YtmpbibngijnfeaaGreat.gen
