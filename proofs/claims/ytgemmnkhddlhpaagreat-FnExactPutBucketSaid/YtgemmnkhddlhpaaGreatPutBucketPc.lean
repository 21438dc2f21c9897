/-
  Helper text: plain laws of the functions. No conditions beyond those of each law.
-/
import Derived.Test.YtgemmnkhddlhpaaGreatPutBucketPb
namespace Go.Proofs.YtgemmnkhddlhpaaGreat.gen
open Go Go.Sh
set_option linter.unusedVariables false
set_option linter.unusedSimpArgs false
theorem p_IndexFunc_Bucket {p : M.Bucket → Option Bool} {f : M.Bucket → Bool} {xs : List M.Bucket} (hx : xs.length ≤ maxLen) (hp : ∀ x ∈ xs, p x = some (f x)) : m_slices_IndexFunc_Bucket xs p = some (fidx f xs) := by
  have hm := le_max hx
  unfold m_slices_IndexFunc_Bucket
  rw [findAll (L := m_slices_IndexFunc_Bucket_L1 xs p) (f := f) (A := fun i => some (i : Int)) (E := some (-1)) hx (fun n k hk => by
    simp only [m_slices_IndexFunc_Bucket_L1]
    rw [if_pos (lt_nat hk), idx_nat hk, Option.bind_some, hp _ (List.getElem_mem hk), Option.bind_some, wrapn (by omega)]) (fun n => by
    simp only [m_slices_IndexFunc_Bucket_L1]
    rw [if_neg (by rw [nlt_nat]; simp)]), fidx_some]
theorem p_IndexFunc_Cached {p : M.Cached → Option Bool} {f : M.Cached → Bool} {xs : List M.Cached} (hx : xs.length ≤ maxLen) (hp : ∀ x ∈ xs, p x = some (f x)) : m_slices_IndexFunc_Cached xs p = some (fidx f xs) := by
  have hm := le_max hx
  unfold m_slices_IndexFunc_Cached
  rw [findAll (L := m_slices_IndexFunc_Cached_L1 xs p) (f := f) (A := fun i => some (i : Int)) (E := some (-1)) hx (fun n k hk => by
    simp only [m_slices_IndexFunc_Cached_L1]
    rw [if_pos (lt_nat hk), idx_nat hk, Option.bind_some, hp _ (List.getElem_mem hk), Option.bind_some, wrapn (by omega)]) (fun n => by
    simp only [m_slices_IndexFunc_Cached_L1]
    rw [if_neg (by rw [nlt_nat]; simp)]), fidx_some]
theorem p_IndexFunc_Store {p : M.Store → Option Bool} {f : M.Store → Bool} {xs : List M.Store} (hx : xs.length ≤ maxLen) (hp : ∀ x ∈ xs, p x = some (f x)) : m_slices_IndexFunc_Store xs p = some (fidx f xs) := by
  have hm := le_max hx
  unfold m_slices_IndexFunc_Store
  rw [findAll (L := m_slices_IndexFunc_Store_L1 xs p) (f := f) (A := fun i => some (i : Int)) (E := some (-1)) hx (fun n k hk => by
    simp only [m_slices_IndexFunc_Store_L1]
    rw [if_pos (lt_nat hk), idx_nat hk, Option.bind_some, hp _ (List.getElem_mem hk), Option.bind_some, wrapn (by omega)]) (fun n => by
    simp only [m_slices_IndexFunc_Store_L1]
    rw [if_neg (by rw [nlt_nat]; simp)]), fidx_some]
theorem p_IndexFunc_Field {p : M.Field → Option Bool} {f : M.Field → Bool} {xs : List M.Field} (hx : xs.length ≤ maxLen) (hp : ∀ x ∈ xs, p x = some (f x)) : m_slices_IndexFunc_Field xs p = some (fidx f xs) := by
  have hm := le_max hx
  unfold m_slices_IndexFunc_Field
  rw [findAll (L := m_slices_IndexFunc_Field_L1 xs p) (f := f) (A := fun i => some (i : Int)) (E := some (-1)) hx (fun n k hk => by
    simp only [m_slices_IndexFunc_Field_L1]
    rw [if_pos (lt_nat hk), idx_nat hk, Option.bind_some, hp _ (List.getElem_mem hk), Option.bind_some, wrapn (by omega)]) (fun n => by
    simp only [m_slices_IndexFunc_Field_L1]
    rw [if_neg (by rw [nlt_nat]; simp)]), fidx_some]
def nAt (a b : ByteArray) (x : M.Bucket) : Bool := (x.Site.toList == a.toList) && (x.Top.toList == b.toList)
theorem p_spec_FindBucket {s : M.Storage} {a b : ByteArray} (hs : s.ok) : m_spec_FindBucket s a b = some (fidx (nAt a b) s.Buckets) := by
  have hm := le_max hs.Buckets.1
  unfold m_spec_FindBucket
  rw [findAll (L := m_spec_FindBucket_L1 s a b) (f := nAt a b) (A := fun i => some (i : Int)) (E := some (-1)) hs.Buckets.1 (fun m k hk => ?_) (fun m => ?_), fidx_some]
  · simp only [m_spec_FindBucket_L1]
    rw [if_pos (lt_nat hk), idx_nat hk, Option.bind_some, wrapn (by omega), ite2]
    rfl
  · simp only [m_spec_FindBucket_L1]
    rw [if_neg (by rw [nlt_nat]; simp)]
theorem p_impl_FindBucket {s : M.Storage} {a b : ByteArray} (hs : s.ok) : m_impl_FindBucket s a b = some (fidx (nAt a b) s.Buckets) := by
  unfold m_impl_FindBucket
  rw [p_IndexFunc_Bucket (f := nAt a b) hs.Buckets.1 (fun x _ => by simp only [m_impl_FindBucket_1, ite_and]; rfl), Option.bind_some]
end Go.Proofs.YtgemmnkhddlhpaaGreat.gen
