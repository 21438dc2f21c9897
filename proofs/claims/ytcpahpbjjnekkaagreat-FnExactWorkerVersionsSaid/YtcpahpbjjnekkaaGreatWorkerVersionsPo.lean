/-
  Helper text: plain laws of the functions. No conditions beyond those of each law.
-/
import Derived.Test.YtcpahpbjjnekkaaGreatWorkerVersionsPm
namespace Go.Proofs.YtcpahpbjjnekkaaGreat.gen
open Go Go.Sh
set_option linter.unusedVariables false
set_option linter.unusedSimpArgs false
theorem p_IndexFunc_Bucket {p : M.Bucket → Option Bool} {f : M.Bucket → Bool} {xs : List M.Bucket} (hx : xs.length ≤ maxLen) (hp : ∀ x ∈ xs, p x = some (f x)) : m_slices_IndexFunc_Bucket xs p = some (fidx f xs) := by
  have hm := le_max hx
  unfold m_slices_IndexFunc_Bucket
  rw [findAll (L := m_slices_IndexFunc_Bucket_L1 xs p) (f := f) (A := fun i => some (i : Int)) (E := some (-1)) hx (fun n k hk => by
    simp only [m_slices_IndexFunc_Bucket_L1]
    rw [if_pos (lt_nat hk), idx_nat hk, Option.bind_some, hp _ (List.getElem_mem hk), Option.bind_some, wrapn (by omega)]) (fun n => by
    simp only [m_slices_IndexFunc_Bucket_L1]
    rw [if_neg (by rw [nlt_nat]; simp)]), fidx_some]
def nAt (a b : ByteArray) (x : M.Bucket) : Bool := (x.Site.toList == a.toList) && (x.Top.toList == b.toList)
theorem p_spec_FindBucket {s : M.Storage} {a b : ByteArray} (hs : s.ok) : m_spec_FindBucket s a b = some (fidx (nAt a b) s.Buckets) := by
  have hm := le_max hs.Buckets.1
  unfold m_spec_FindBucket
  rw [findAll (L := m_spec_FindBucket_L1 s a b) (f := nAt a b) (A := fun i => some (i : Int)) (E := some (-1)) hs.Buckets.1 (fun m k hk => ?_) (fun m => ?_), fidx_some]
  · simp only [m_spec_FindBucket_L1]
    rw [if_pos (lt_nat hk), idx_nat hk, Option.bind_some, wrapn (by omega), ite2]
    rfl
  · simp only [m_spec_FindBucket_L1]
    rw [if_neg (by rw [nlt_nat]; simp)]
theorem p_impl_FindBucket {s : M.Storage} {a b : ByteArray} (hs : s.ok) : m_impl_FindBucket s a b = some (fidx (nAt a b) s.Buckets) := by
  unfold m_impl_FindBucket
  rw [p_IndexFunc_Bucket (f := nAt a b) hs.Buckets.1 (fun x _ => by simp only [m_impl_FindBucket_1, ite_and]; rfl), Option.bind_some]
def noBucket : M.Bucket := (⟨(⟨#[]⟩ : ByteArray), (⟨#[]⟩ : ByteArray), (⟨(⟨#[]⟩ : ByteArray), 0, 0, 0⟩ : M.Registration), (⟨([] : List M.Cache)⟩ : M.CacheSet), (⟨(⟨(⟨#[]⟩ : ByteArray), 0, ([] : List M.Store), ([] : List M.IndexDef)⟩ : M.Database), ([] : List Int), 0⟩ : M.Disk), (⟨(⟨(⟨#[]⟩ : ByteArray), ([] : List M.Item), 0⟩ : M.Store), 0, (⟨(⟨0, 0, ([] : List M.Write)⟩ : M.Outbox), 0, 0⟩ : M.Sync)⟩ : M.Replica), 0, false⟩ : M.Bucket)
theorem bucketOf_no {w : M.World} {a b : ByteArray} (hw : w.ok) (h : fidx (nAt a b) w.Storage.Buckets < 0) : m_impl_bucketOf w a b = some (noBucket, false) := by
  unfold m_impl_bucketOf
  rw [p_impl_FindBucket hw.Storage, Option.bind_some, if_pos (by simpa using h)]
  rfl
theorem bucketOf_at {w : M.World} {a b : ByteArray} {j : Nat} (hw : w.ok) (hj : fidx (nAt a b) w.Storage.Buckets = (j : Int)) (hlt : j < w.Storage.Buckets.length) : m_impl_bucketOf w a b = some (w.Storage.Buckets[j], true) := by
  unfold m_impl_bucketOf
  rw [p_impl_FindBucket hw.Storage, Option.bind_some, hj, if_neg (by simp), idx_nat hlt, Option.bind_some]
theorem p_WorkerVersions {w : M.World} {a b : ByteArray} (hw : w.ok) : ∃ r : List Int, m_spec_WorkerVersions w a b = some r ∧ m_impl_WorkerVersions w a b = some r ∧ okI r ∧ r.length ≤ 3 := by
  unfold m_spec_WorkerVersions m_impl_WorkerVersions
  rw [p_spec_FindBucket hw.Storage, Option.bind_some]
  by_cases h : fidx (nAt a b) w.Storage.Buckets < 0
  · rw [bucketOf_no hw h, if_pos (by simpa using h), Option.bind_some]
    exact ⟨[], rfl, rfl, ⟨by simp, by simp⟩, by simp⟩
  · obtain ⟨j, hj, hlt⟩ := fidx_nat h
    have hr := (hw.Storage.Buckets.2 _ (List.getElem_mem hlt)).Registration
    rw [bucketOf_at hw hj hlt, if_neg (by simpa using h), Option.bind_some, hj, idx_nat hlt, Option.bind_some, if_neg (by simp)]
    refine ⟨_, rfl, rfl, ⟨by unfold maxLen; simp, ?_⟩, by simp⟩
    intro y hy
    simp only [List.mem_cons, List.not_mem_nil, or_false] at hy
    rcases hy with rfl | rfl | rfl
    · exact hr.Active
    · exact hr.Waiting
    · exact hr.Installing
end Go.Proofs.YtcpahpbjjnekkaaGreat.gen
