/-
  Helper text: plain laws of the functions. No conditions beyond those of each law.
-/
import Derived.Test.YtcpahpbjjnekkaaGreatAppliedOfPm
namespace Go.Proofs.YtcpahpbjjnekkaaGreat.gen
open Go Go.Sh
set_option linter.unusedVariables false
set_option linter.unusedSimpArgs false
theorem p_IndexFunc_Bucket {p : M.Bucket → Option Bool} {f : M.Bucket → Bool} {xs : List M.Bucket} (hx : xs.length ≤ maxLen) (hp : ∀ x ∈ xs, p x = some (f x)) : m_slices_IndexFunc_Bucket xs p = some (fidx f xs) := by
  have hm := le_max hx
  unfold m_slices_IndexFunc_Bucket
  rw [findAll (L := m_slices_IndexFunc_Bucket_L1 xs p) (f := f) (A := fun i => some (i : Int)) (E := some (-1)) hx (fun n k hk => by
    simp only [m_slices_IndexFunc_Bucket_L1]
    rw [if_pos (lt_nat hk), idx_nat hk, Option.bind_some, hp _ (List.getElem_mem hk), Option.bind_some, wrapn (by omega)]) (fun n => by
    simp only [m_slices_IndexFunc_Bucket_L1]
    rw [if_neg (by rw [nlt_nat]; simp)]), fidx_some]
def nAt (a b : ByteArray) (x : M.Bucket) : Bool := (x.Site.toList == a.toList) && (x.Top.toList == b.toList)
theorem p_spec_FindBucket {s : M.Storage} {a b : ByteArray} (hs : s.ok) : m_spec_FindBucket s a b = some (fidx (nAt a b) s.Buckets) := by
  have hm := le_max hs.Buckets.1
  unfold m_spec_FindBucket
  rw [findAll (L := m_spec_FindBucket_L1 s a b) (f := nAt a b) (A := fun i => some (i : Int)) (E := some (-1)) hs.Buckets.1 (fun m k hk => ?_) (fun m => ?_), fidx_some]
  · simp only [m_spec_FindBucket_L1]
    rw [if_pos (lt_nat hk), idx_nat hk, Option.bind_some, wrapn (by omega), ite2]
    rfl
  · simp only [m_spec_FindBucket_L1]
    rw [if_neg (by rw [nlt_nat]; simp)]
theorem p_impl_FindBucket {s : M.Storage} {a b : ByteArray} (hs : s.ok) : m_impl_FindBucket s a b = some (fidx (nAt a b) s.Buckets) := by
  unfold m_impl_FindBucket
  rw [p_IndexFunc_Bucket (f := nAt a b) hs.Buckets.1 (fun x _ => by simp only [m_impl_FindBucket_1, ite_and]; rfl), Option.bind_some]
def noBucket : M.Bucket := (⟨(⟨#[]⟩ : ByteArray), (⟨#[]⟩ : ByteArray), (⟨(⟨#[]⟩ : ByteArray), 0, 0, 0⟩ : M.Registration), (⟨([] : List M.Cache)⟩ : M.CacheSet), (⟨(⟨(⟨#[]⟩ : ByteArray), 0, ([] : List M.Store), ([] : List M.IndexDef)⟩ : M.Database), ([] : List Int), 0⟩ : M.Disk), (⟨(⟨(⟨#[]⟩ : ByteArray), ([] : List M.Item), 0⟩ : M.Store), 0, (⟨(⟨0, 0, ([] : List M.Write)⟩ : M.Outbox), 0, 0⟩ : M.Sync)⟩ : M.Replica), 0, false⟩ : M.Bucket)
theorem bucketOf_no {w : M.World} {a b : ByteArray} (hw : w.ok) (h : fidx (nAt a b) w.Storage.Buckets < 0) : m_impl_bucketOf w a b = some (noBucket, false) := by
  unfold m_impl_bucketOf
  rw [p_impl_FindBucket hw.Storage, Option.bind_some, if_pos (by simpa using h)]
  rfl
theorem bucketOf_at {w : M.World} {a b : ByteArray} {j : Nat} (hw : w.ok) (hj : fidx (nAt a b) w.Storage.Buckets = (j : Int)) (hlt : j < w.Storage.Buckets.length) : m_impl_bucketOf w a b = some (w.Storage.Buckets[j], true) := by
  unfold m_impl_bucketOf
  rw [p_impl_FindBucket hw.Storage, Option.bind_some, hj, if_neg (by simp), idx_nat hlt, Option.bind_some]
theorem szSum_filter {α : Type} {f : α → Nat} (g : α → Bool) : ∀ xs : List α, szSum f (xs.filter g) ≤ szSum f xs
  | [] => Nat.le_refl _
  | x :: xs => by
    have := szSum_filter g xs (f := f)
    by_cases h : g x = true
    · rw [List.filter_cons_of_pos h]; simp only [szSum]; omega
    · rw [List.filter_cons_of_neg h]; simp only [szSum]; omega
def nNames : List ByteArray := [(⟨#[98, 97, 110, 107]⟩ : ByteArray), (⟨#[110, 101, 119, 115]⟩ : ByteArray), (⟨#[115, 104, 111, 112]⟩ : ByteArray)]
def nSiteNo (a : ByteArray) : Int := fidx (fun x : ByteArray => x.toList == a.toList) nNames
theorem nNames_len : nNames.length ≤ maxLen := by unfold nNames maxLen; simp
theorem p_spec_SiteNumber {a : ByteArray} : m_spec_SiteNumber a = some (nSiteNo a) := by
  unfold m_spec_SiteNumber
  rw [show m_spec_l29Names = some nNames from rfl, Option.bind_some]
  rw [findAll (L := m_spec_SiteNumber_L1 a nNames) (f := fun x : ByteArray => x.toList == a.toList) (A := fun i => some (i : Int)) (E := some (-1)) nNames_len (fun m k hk => ?_) (fun m => ?_), fidx_some]
  · rfl
  · have hk3 : k < 3 := hk
    simp only [m_spec_SiteNumber_L1]
    rw [if_pos (lt_nat hk), idx_nat hk, Option.bind_some, wrapn (by omega)]
  · simp only [m_spec_SiteNumber_L1]
    rw [if_neg (by rw [nlt_nat]; simp)]
theorem p_impl_SiteNumber {a : ByteArray} : m_impl_SiteNumber a = some (nSiteNo a) := by
  unfold m_impl_SiteNumber m_slices_Index_string
  rw [← nNames.eq_1]
  rw [findAll (L := m_slices_Index_string_L1 nNames a) (f := fun x : ByteArray => x.toList == a.toList) (A := fun i => some (i : Int)) (E := some (-1)) nNames_len (fun m k hk => ?_) (fun m => ?_), fidx_some]
  · rfl
  · have hk3 : k < 3 := hk
    simp only [m_slices_Index_string_L1]
    rw [if_pos (lt_nat hk), idx_nat hk, Option.bind_some, wrapn (by omega), Bool.beq_comm]
  · simp only [m_slices_Index_string_L1]
    rw [if_neg (by rw [nlt_nat]; simp)]
theorem p_AppliedOf {w : M.World} {a b : ByteArray} (hw : w.ok) (hz : M.World.sz w ≤ 1048576) : ∃ r : List M.Write, m_spec_AppliedOf w a b = some r ∧ m_impl_AppliedOf w a b = some r ∧ (r.length ≤ maxLen ∧ ∀ y ∈ r, M.Write.ok y) ∧ r.length + szSum M.Write.sz r ≤ 1048576 := by
  have hl : w.Servers.length ≤ 1048576 := by simp only [M.World.sz] at hz; omega
  have hwr : IntKind.i64.wrap ((w.Servers.length : Int) - 1) = (w.Servers.length : Int) - 1 := wrap_ok (by omega) (by omega)
  unfold m_spec_AppliedOf m_impl_AppliedOf m_spec_l1In
  rw [p_spec_FindBucket hw.Storage, Option.bind_some, p_spec_SiteNumber, p_impl_SiteNumber, hwr, Option.bind_some]
  by_cases h : fidx (nAt a b) w.Storage.Buckets < 0
  · rw [bucketOf_no hw h, if_pos (by simpa using h), Option.bind_some, Option.bind_some]
    exact ⟨[], rfl, rfl, ⟨by simp, by simp⟩, by simp [szSum]⟩
  · obtain ⟨j, hj, hlt⟩ := fidx_nat h
    rw [bucketOf_at hw hj hlt, if_neg (by simpa using h), Option.bind_some, Option.bind_some, if_neg (show ¬ ((!(w.Storage.Buckets[j], true).snd) = true) by simp)]
    by_cases h2 : 0 ≤ nSiteNo a ∧ nSiteNo a < (w.Servers.length : Int)
    · obtain ⟨q, hq⟩ := Int.eq_ofNat_of_zero_le h2.1
      have hqt : q < w.Servers.length := by omega
      have hz1 := szSum_le (f := M.Server.sz) (List.getElem_mem hqt)
      have hz2 : w.Servers[q].Changes.length + szSum M.Write.sz w.Servers[q].Changes ≤ M.Server.sz w.Servers[q] := by simp only [M.Server.sz]; omega
      simp only [M.World.sz] at hz
      have hok := (hw.Servers.2 _ (List.getElem_mem hqt)).Changes
      refine ⟨w.Servers[q].Changes.filter (fun x => x.Device == w.Storage.Buckets[j].Replica.Sync.Outbox.Device), ?_, ?_, ⟨Nat.le_trans (List.length_filter_le _ _) hok.1, fun y hy => hok.2 y (List.mem_filter.1 hy).1⟩, ?_⟩
      · rw [hq, if_pos (by simp), Option.bind_some, if_neg (by simp; omega), hj]
        refine filterAll (L := m_spec_AppliedOf_L1 w (j : Int) (q : Int)) (b := 72) (E := some) hok.1 (by omega) (fun n r k hk => ?_) (fun n r => ?_)
        · simp only [m_spec_AppliedOf_L1]
          rw [idx_nat hqt, Option.bind_some, if_pos (lt_nat hk), idx_nat hk, Option.bind_some, idx_nat hlt, Option.bind_some, wrapn (by omega)]
        · simp only [m_spec_AppliedOf_L1]
          rw [idx_nat hqt, Option.bind_some, if_neg (by rw [nlt_nat]; simp)]
      · rw [hq, if_neg (by simp), if_neg (by simp; omega), idx_nat hqt, Option.bind_some]
        refine filterAll (L := m_impl_AppliedOf_L1 (w.Storage.Buckets[j], true) w.Servers[q]) (b := 72) (E := some) hok.1 (by omega) (fun n r k hk => ?_) (fun n r => ?_)
        · simp only [m_impl_AppliedOf_L1]
          rw [if_pos (lt_nat hk), idx_nat hk, Option.bind_some, wrapn (by omega)]
        · simp only [m_impl_AppliedOf_L1]
          rw [if_neg (by rw [nlt_nat]; simp)]
      · have := szSum_filter (f := M.Write.sz) (fun x : M.Write => x.Device == w.Storage.Buckets[j].Replica.Sync.Outbox.Device) w.Servers[q].Changes
        have := List.length_filter_le (fun x : M.Write => x.Device == w.Storage.Buckets[j].Replica.Sync.Outbox.Device) w.Servers[q].Changes
        omega
    · refine ⟨[], ?_, ?_, ⟨by simp, by simp⟩, by simp [szSum]⟩
      · by_cases h0 : nSiteNo a ≥ 0
        · rw [if_pos (by simpa using h0), Option.bind_some, if_pos (by simp; omega)]
        · rw [if_neg (by simpa using h0), Option.bind_some, if_pos (by simp)]
      · by_cases h0 : nSiteNo a < 0
        · rw [if_pos (by simpa using h0)]
        · rw [if_neg (by simpa using h0), if_pos (by simp; omega)]
end Go.Proofs.YtcpahpbjjnekkaaGreat.gen
