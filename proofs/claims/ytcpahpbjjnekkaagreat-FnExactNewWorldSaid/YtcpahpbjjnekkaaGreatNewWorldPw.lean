/-
  Helper text: plain laws of the functions. No conditions beyond those of each law.
-/
import Derived.Test.YtcpahpbjjnekkaaGreatNewWorldPm
namespace Go.Proofs.YtcpahpbjjnekkaaGreat.gen
open Go Go.Sh
set_option linter.unusedVariables false
set_option linter.unusedSimpArgs false
def nNames : List ByteArray := [(⟨#[98, 97, 110, 107]⟩ : ByteArray), (⟨#[110, 101, 119, 115]⟩ : ByteArray), (⟨#[115, 104, 111, 112]⟩ : ByteArray)]


def nNew (d : Int) : M.World := if 1 ≤ d ∧ d ≤ 1000000 then (⟨0, true, d, (⟨([] : List M.Bucket)⟩ : M.Storage), ([] : List M.Page), 1, (⟨([] : List M.Lock)⟩ : M.LockTable), (⟨([] : List M.Mail)⟩ : M.Channel),
   nNames.map (fun x => (⟨x, 1, [(⟨#[99, 111, 100, 101]⟩ : ByteArray), (⟨#[100, 97, 116, 97]⟩ : ByteArray), (⟨#[105, 110, 100, 101, 120]⟩ : ByteArray), (⟨#[115, 116, 121, 108, 101]⟩ : ByteArray)], (x.toList == (⟨#[110, 101, 119, 115]⟩ : ByteArray).toList)⟩ : M.Site)),
   nNames.map (fun _ => (⟨(⟨(⟨#[110, 111, 116, 101, 115]⟩ : ByteArray), ([] : List M.Item), 0⟩ : M.Store), ([] : List M.Applied), ([] : List M.Write)⟩ : M.Server))⟩ : M.World)
  else (⟨0, false, 0, (⟨([] : List M.Bucket)⟩ : M.Storage), ([] : List M.Page), 0, (⟨([] : List M.Lock)⟩ : M.LockTable), (⟨([] : List M.Mail)⟩ : M.Channel), ([] : List M.Site), ([] : List M.Server)⟩ : M.World)
theorem fuel4 : ∃ n, fuel = n + 4 := ⟨fuel - 4, by unfold fuel; omega⟩
theorem p_spec_NewWorld {d : Int} : m_spec_NewWorld d = some (nNew d) := by
  unfold m_spec_NewWorld nNew m_spec_l1In
  by_cases h : 1 ≤ d ∧ d ≤ 1000000
  · rw [if_pos h, if_pos (by simpa using h.1), Option.bind_some, if_neg (by simpa using h.2)]
    obtain ⟨n, hn⟩ := fuel4
    rw [hn]
    rfl
  · rw [if_neg h]
    by_cases h1 : 1 ≤ d
    · rw [if_pos (by simpa using h1), Option.bind_some, if_pos (by simp; omega)]
    · rw [if_neg (by simpa using h1), Option.bind_some, if_pos (by simp)]
theorem p_impl_NewWorld {d : Int} : m_impl_NewWorld d = some (nNew d) := by
  unfold m_impl_NewWorld nNew m_impl_InRange
  by_cases h : 1 ≤ d ∧ d ≤ 1000000
  · rw [if_pos h, if_pos (by simpa using h.1), Option.bind_some, if_neg (by simpa using h.2)]
    obtain ⟨n, hn⟩ := fuel4
    rw [hn]
    rfl
  · rw [if_neg h]
    by_cases h1 : 1 ≤ d
    · rw [if_pos (by simpa using h1), Option.bind_some, if_pos (by simp; omega)]
    · rw [if_neg (by simpa using h1), Option.bind_some, if_pos (by simp)]
theorem nNew_ok (d : Int) : (nNew d).ok := by
  unfold nNew
  split
  · rename_i h
    refine ⟨by unfold inI; simp, by unfold inI; simp; omega, ⟨by simp, by simp⟩, ⟨by simp, by simp⟩, by unfold inI; simp, ⟨by simp, by simp⟩, ⟨by simp, by simp⟩, ⟨by unfold nNames maxLen; simp, ?_⟩, ⟨by unfold nNames maxLen; simp, ?_⟩⟩
    · intro y hy
      obtain ⟨x, hx, rfl⟩ := List.mem_map.1 hy
      have h4 : x.size ≤ maxLen := by
        unfold nNames at hx
        simp only [List.mem_cons, List.not_mem_nil, or_false] at hx
        rcases hx with rfl | rfl | rfl <;> (show 4 ≤ maxLen; unfold maxLen; omega)
      refine ⟨h4, by unfold inI; simp, ⟨by unfold maxLen; simp, ?_⟩⟩
      intro z hz
      simp only [List.mem_cons, List.not_mem_nil, or_false] at hz
      rcases hz with rfl | rfl | rfl | rfl <;> (unfold maxLen; decide)
    · intro y hy
      obtain ⟨x, hx, rfl⟩ := List.mem_map.1 hy
      exact ⟨⟨by show 5 ≤ maxLen; unfold maxLen; omega, ⟨by simp, by simp⟩, by unfold inI; simp⟩, ⟨by simp, by simp⟩, ⟨by simp, by simp⟩⟩
  · exact ⟨by unfold inI; simp, by unfold inI; simp, ⟨by simp, by simp⟩, ⟨by simp, by simp⟩, by unfold inI; simp, ⟨by simp, by simp⟩, ⟨by simp, by simp⟩, ⟨by simp, by simp⟩, ⟨by simp, by simp⟩⟩
end Go.Proofs.YtcpahpbjjnekkaaGreat.gen
