/-
  Helper text: plain laws of the functions. No conditions beyond those of each law.
-/
import Derived.Test.YtgemmnkhddlhpaaGreatNewBucketPi
namespace Go.Proofs.YtgemmnkhddlhpaaGreat.gen
open Go Go.Sh
set_option linter.unusedVariables false
set_option linter.unusedSimpArgs false
def nZeroB : M.Bucket := (⟨(⟨#[]⟩ : ByteArray), (⟨#[]⟩ : ByteArray), (⟨(⟨#[]⟩ : ByteArray), 0, 0, 0⟩ : M.Registration), (⟨([] : List M.Cache)⟩ : M.CacheSet), (⟨(⟨(⟨#[]⟩ : ByteArray), 0, ([] : List M.Store), ([] : List M.IndexDef)⟩ : M.Database), ([] : List Int), 0⟩ : M.Disk), (⟨(⟨(⟨#[]⟩ : ByteArray), ([] : List M.Item), 0⟩ : M.Store), 0, (⟨(⟨0, 0, ([] : List M.Write)⟩ : M.Outbox), 0, 0⟩ : M.Sync)⟩ : M.Replica), 0, false⟩ : M.Bucket)
def nNewB (a b : ByteArray) (d : Int) : M.Bucket := (⟨a, b, (⟨a, 0, 0, 0⟩ : M.Registration), (⟨([] : List M.Cache)⟩ : M.CacheSet), (⟨(⟨(⟨#[97, 112, 112]⟩ : ByteArray), 1, [(⟨(⟨#[110, 111, 116, 101, 115]⟩ : ByteArray), ([] : List M.Item), 0⟩ : M.Store)], ([] : List M.IndexDef)⟩ : M.Database), ([] : List Int), 0⟩ : M.Disk), (⟨(⟨(⟨#[110, 111, 116, 101, 115]⟩ : ByteArray), ([] : List M.Item), 0⟩ : M.Store), 0, (⟨(⟨d, 1, ([] : List M.Write)⟩ : M.Outbox), 0, 0⟩ : M.Sync)⟩ : M.Replica), 0, false⟩ : M.Bucket)
theorem inI0 : inI 0 := by unfold inI; omega
theorem inI1 : inI 1 := by unfold inI; omega
theorem max0 (n : Nat) (h : n ≤ 1048576) : n ≤ maxLen := by unfold maxLen; omega
theorem sz0 : ((⟨#[]⟩ : ByteArray)).size ≤ maxLen := max0 _ (by decide)
theorem sz5 : ((⟨#[110, 111, 116, 101, 115]⟩ : ByteArray)).size ≤ maxLen := max0 _ (by decide)
theorem sz3 : ((⟨#[97, 112, 112]⟩ : ByteArray)).size ≤ maxLen := max0 _ (by decide)
theorem box_ok {d : Int} (n : Int) (hd : inI d) (hn : inI n) : M.Outbox.ok (⟨d, n, ([] : List M.Write)⟩ : M.Outbox) := ⟨hd, hn, ⟨by simp, by simp⟩⟩
theorem nZeroB_ok : nZeroB.ok := ⟨sz0, sz0, ⟨sz0, inI0, inI0, inI0⟩, ⟨⟨by simp [nZeroB], by simp [nZeroB]⟩⟩, ⟨⟨sz0, inI0, ⟨by simp [nZeroB], by simp [nZeroB]⟩, ⟨by simp [nZeroB], by simp [nZeroB]⟩⟩, ⟨by simp [nZeroB], by simp [nZeroB]⟩, inI0⟩, ⟨⟨sz0, ⟨by simp [nZeroB], by simp [nZeroB]⟩, inI0⟩, inI0, ⟨⟨inI0, inI0, ⟨by simp [nZeroB], by simp [nZeroB]⟩⟩, inI0, inI0⟩⟩, inI0⟩
theorem note_ok : M.Store.ok (⟨(⟨#[110, 111, 116, 101, 115]⟩ : ByteArray), ([] : List M.Item), 0⟩ : M.Store) := ⟨sz5, ⟨by simp, by simp⟩, inI0⟩
theorem nNewB_ok {a b : ByteArray} {d : Int} (ha : a.size ≤ maxLen) (hb : b.size ≤ maxLen) (hd : inI d) : (nNewB a b d).ok :=
  ⟨ha, hb, ⟨ha, inI0, inI0, inI0⟩, ⟨⟨by simp [nNewB], by simp [nNewB]⟩⟩, ⟨⟨sz3, inI1, ⟨max0 _ (by simp [nNewB]), fun y hy => by
    simp only [nNewB, List.mem_cons, List.not_mem_nil, or_false] at hy
    subst hy
    exact note_ok⟩, ⟨by simp [nNewB], by simp [nNewB]⟩⟩, ⟨by simp [nNewB], by simp [nNewB]⟩, inI0⟩, ⟨note_ok, inI0, ⟨box_ok 1 hd inI1, inI0, inI0⟩⟩, inI0⟩
theorem nNewB_db (a b : ByteArray) (d : Int) : M.Database.sz (nNewB a b d).Disk.Base ≤ 1048576 := by
  simp only [nNewB]
  decide
def nNewR (a b : ByteArray) (d : Int) : M.Bucket × Bool := if nOutbox (⟨d, 1, ([] : List M.Write)⟩ : M.Outbox) = true then (if nBucket (nNewB a b d) = true then (nNewB a b d, true) else (nZeroB, false)) else (nZeroB, false)
theorem p_spec_NewBucket {a b : ByteArray} {d : Int} (ha : a.size ≤ maxLen) (hb : b.size ≤ maxLen) (hd : inI d) : m_spec_NewBucket a b d = some (nNewR a b d) := by
  unfold m_spec_NewBucket m_spec_NewOutbox nNewR
  rw [p_spec_IsOutbox (box_ok 1 hd inI1), Option.bind_some]
  cases hn : nOutbox (⟨d, 1, ([] : List M.Write)⟩ : M.Outbox) with
  | false => simp [nZeroB]
  | true =>
    have hI := p_spec_IsBucket' (nNewB_ok ha hb hd) (nNewB_db a b d)
    unfold nNewB at hI
    simp only [Bool.not_true, Bool.false_eq_true, if_false, Option.bind_some, hI, if_true]
    unfold nNewB
    generalize nBucket _ = c
    cases c <;> simp [nZeroB]
theorem p_impl_NewBucket {a b : ByteArray} {d : Int} (ha : a.size ≤ maxLen) (hb : b.size ≤ maxLen) (hd : inI d) : m_impl_NewBucket a b d = some (nNewR a b d) := by
  unfold m_impl_NewBucket m_impl_NewOutbox nNewR
  rw [p_impl_IsOutbox (box_ok 1 hd inI1), Option.bind_some]
  cases hn : nOutbox (⟨d, 1, ([] : List M.Write)⟩ : M.Outbox) with
  | false => simp [nZeroB]
  | true =>
    have hI := p_impl_IsBucket' (nNewB_ok ha hb hd) (nNewB_db a b d)
    unfold nNewB at hI
    simp only [Bool.not_true, Bool.false_eq_true, if_false, Option.bind_some, hI, if_true]
    unfold nNewB
    generalize nBucket _ = c
    cases c <;> simp [nZeroB]
theorem nNewR_ok {a b : ByteArray} {d : Int} (ha : a.size ≤ maxLen) (hb : b.size ≤ maxLen) (hd : inI d) : (nNewR a b d).1.ok := by
  unfold nNewR
  split
  · split
    · exact nNewB_ok ha hb hd
    · exact nZeroB_ok
  · exact nZeroB_ok
theorem nNewR_cnt (a b : ByteArray) (d : Int) : M.Bucket.cnts (nNewR a b d).1 ≤ 1000 := by
  unfold nNewR
  split
  · split
    · simp only [nNewB, M.Bucket.cnts]; decide
    · decide
  · decide

end Go.Proofs.YtgemmnkhddlhpaaGreat.gen
