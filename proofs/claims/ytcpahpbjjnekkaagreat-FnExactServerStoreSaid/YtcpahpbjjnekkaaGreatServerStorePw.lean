/-
  Helper text: plain laws of the functions. No conditions beyond those of each law.
-/
import Derived.Test.YtcpahpbjjnekkaaGreatServerStorePm
namespace Go.Proofs.YtcpahpbjjnekkaaGreat.gen
open Go Go.Sh
set_option linter.unusedVariables false
set_option linter.unusedSimpArgs false
def nNames : List ByteArray := [(⟨#[98, 97, 110, 107]⟩ : ByteArray), (⟨#[110, 101, 119, 115]⟩ : ByteArray), (⟨#[115, 104, 111, 112]⟩ : ByteArray)]
def nSiteNo (a : ByteArray) : Int := fidx (fun x : ByteArray => x.toList == a.toList) nNames
theorem nNames_len : nNames.length ≤ maxLen := by unfold nNames maxLen; simp
theorem p_spec_SiteNumber {a : ByteArray} : m_spec_SiteNumber a = some (nSiteNo a) := by
  unfold m_spec_SiteNumber
  rw [show m_spec_l29Names = some nNames from rfl, Option.bind_some]
  rw [findAll (L := m_spec_SiteNumber_L1 a nNames) (f := fun x : ByteArray => x.toList == a.toList) (A := fun i => some (i : Int)) (E := some (-1)) nNames_len (fun m k hk => ?_) (fun m => ?_), fidx_some]
  · rfl
  · have hk3 : k < 3 := hk
    simp only [m_spec_SiteNumber_L1]
    rw [if_pos (lt_nat hk), idx_nat hk, Option.bind_some, wrapn (by omega)]
  · simp only [m_spec_SiteNumber_L1]
    rw [if_neg (by rw [nlt_nat]; simp)]
theorem p_impl_SiteNumber {a : ByteArray} : m_impl_SiteNumber a = some (nSiteNo a) := by
  unfold m_impl_SiteNumber m_slices_Index_string
  rw [← nNames.eq_1]
  rw [findAll (L := m_slices_Index_string_L1 nNames a) (f := fun x : ByteArray => x.toList == a.toList) (A := fun i => some (i : Int)) (E := some (-1)) nNames_len (fun m k hk => ?_) (fun m => ?_), fidx_some]
  · rfl
  · have hk3 : k < 3 := hk
    simp only [m_slices_Index_string_L1]
    rw [if_pos (lt_nat hk), idx_nat hk, Option.bind_some, wrapn (by omega), Bool.beq_comm]
  · simp only [m_slices_Index_string_L1]
    rw [if_neg (by rw [nlt_nat]; simp)]
theorem p_spec_l5Copy (x : M.Record) (hs : M.Record.sz x ≤ 1073741824) : m_spec_l5Copy x = some x := by
  simp only [M.Record.sz] at hs
  unfold m_spec_l5Copy
  rw [app0 (by omega) (by omega), Option.bind_some]
theorem p_spec_l6Item (x : M.Item) (hs : M.Item.sz x ≤ 1073741824) : m_spec_l6Item x = some x := by
  simp only [M.Item.sz] at hs
  unfold m_spec_l6Item
  rw [p_spec_l5Copy _ (by omega), Option.bind_some]
theorem p_spec_l6Copy (x : M.Store) (hs : M.Store.sz x ≤ 1073741824) : m_spec_l6Copy x = some x := by
  have hl : x.Items.length ≤ 1073741824 := by simp only [M.Store.sz] at hs; omega
  unfold m_spec_l6Copy
  exact copyAll (xs := x.Items) (L := m_spec_l6Copy_L1 x) (b := 56) (E := fun r => some { x with Items := r }) hl (by omega) (fun n r k hk => by
    simp only [m_spec_l6Copy_L1]
    rw [if_pos (lt_nat hk), idx_nat hk, Option.bind_some, p_spec_l6Item _ (by have := szSum_le (f := M.Item.sz) (List.getElem_mem hk); simp only [M.Store.sz] at hs; omega), Option.bind_some, wrapn (by omega)]) (fun n r => by
    simp only [m_spec_l6Copy_L1]
    rw [if_neg (by rw [nlt_nat]; simp)])
theorem p_impl_copyRecord (x : M.Record) (hs : M.Record.sz x ≤ 1073741824) : m_impl_copyRecord x = some x := by
  simp only [M.Record.sz] at hs
  unfold m_impl_copyRecord
  rw [app0 (by omega) (by omega), Option.bind_some]
theorem p_impl_copyItem (x : M.Item) (hs : M.Item.sz x ≤ 1073741824) : m_impl_copyItem x = some x := by
  simp only [M.Item.sz] at hs
  unfold m_impl_copyItem
  rw [p_impl_copyRecord _ (by omega), Option.bind_some]
theorem p_impl_copyStore (x : M.Store) (hs : M.Store.sz x ≤ 1073741824) : m_impl_copyStore x = some x := by
  have hl : x.Items.length ≤ 1073741824 := by simp only [M.Store.sz] at hs; omega
  unfold m_impl_copyStore
  exact copyAll (xs := x.Items) (L := m_impl_copyStore_L1 x) (b := 56) (E := fun r => some { x with Items := r }) hl (by omega) (fun n r k hk => by
    simp only [m_impl_copyStore_L1]
    rw [if_pos (lt_nat hk), idx_nat hk, Option.bind_some, p_impl_copyItem _ (by have := szSum_le (f := M.Item.sz) (List.getElem_mem hk); simp only [M.Store.sz] at hs; omega), Option.bind_some, wrapn (by omega)]) (fun n r => by
    simp only [m_impl_copyStore_L1]
    rw [if_neg (by rw [nlt_nat]; simp)])
theorem p_ServerStore {w : M.World} {a : ByteArray} (hw : w.ok) (hz : M.World.sz w ≤ 1048576) : ∃ r : M.Store, m_spec_ServerStore w a = some r ∧ m_impl_ServerStore w a = some r ∧ r.ok ∧ M.Store.sz r ≤ 1048576 := by
  have hl : w.Servers.length ≤ 1048576 := by simp only [M.World.sz] at hz; omega
  have hwr : IntKind.i64.wrap ((w.Servers.length : Int) - 1) = (w.Servers.length : Int) - 1 := wrap_ok (by omega) (by omega)
  unfold m_spec_ServerStore m_impl_ServerStore m_spec_l1In
  rw [p_spec_SiteNumber, p_impl_SiteNumber, Option.bind_some, Option.bind_some, hwr]
  by_cases h : 0 ≤ nSiteNo a ∧ nSiteNo a < (w.Servers.length : Int)
  · obtain ⟨j, hj⟩ := Int.eq_ofNat_of_zero_le h.1
    have hlt : j < w.Servers.length := by omega
    have hz1 := szSum_le (f := M.Server.sz) (List.getElem_mem hlt)
    have hz2 : M.Store.sz w.Servers[j].Store ≤ M.Server.sz w.Servers[j] := by simp only [M.Server.sz]; omega
    simp only [M.World.sz] at hz
    refine ⟨w.Servers[j].Store, ?_, ?_, (hw.Servers.2 _ (List.getElem_mem hlt)).Store, by omega⟩
    · rw [hj, idx_nat hlt, Option.bind_some, p_spec_l6Copy _ (by omega), if_pos (by simp), Option.bind_some, if_neg (by simp; omega), Option.bind_some]
    · rw [hj, idx_nat hlt, Option.bind_some, p_impl_copyStore _ (by omega), if_neg (by simp), if_neg (by simp; omega), Option.bind_some]
  · refine ⟨(⟨(⟨#[]⟩ : ByteArray), ([] : List M.Item), 0⟩ : M.Store), ?_, ?_, ⟨by show 0 ≤ _; omega, ⟨by simp, by simp⟩, by unfold inI; simp⟩, by show 0 + _ ≤ _; simp [szSum]⟩
    · by_cases h0 : nSiteNo a ≥ 0
      · rw [if_pos (by simpa using h0), Option.bind_some, if_pos (by simp; omega)]
      · rw [if_neg (by simpa using h0), Option.bind_some, if_pos (by simp)]
    · by_cases h0 : nSiteNo a < 0
      · rw [if_pos (by simpa using h0)]
      · rw [if_neg (by simpa using h0), if_pos (by simp; omega)]
end Go.Proofs.YtcpahpbjjnekkaaGreat.gen
