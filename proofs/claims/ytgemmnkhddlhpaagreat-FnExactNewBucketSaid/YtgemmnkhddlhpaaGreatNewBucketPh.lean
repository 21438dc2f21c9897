/-
  Helper text: plain laws of the functions. No conditions beyond those of each law.
-/
import Derived.Test.YtgemmnkhddlhpaaGreatNewBucketPg
namespace Go.Proofs.YtgemmnkhddlhpaaGreat.gen
open Go Go.Sh
set_option linter.unusedVariables false
set_option linter.unusedSimpArgs false
theorem p_impl_copyBytes (x : List Int) (hs : x.length ≤ 1073741824) : m_impl_copyBytes x = some x := by
  unfold m_impl_copyBytes
  rw [app0 hs (by omega), Option.bind_some]
theorem p_spec_l5Copy (x : M.Record) (hs : M.Record.sz x ≤ 1073741824) : m_spec_l5Copy x = some x := by
  simp only [M.Record.sz] at hs
  unfold m_spec_l5Copy
  rw [app0 (by omega) (by omega), Option.bind_some]
theorem p_spec_l6Item (x : M.Item) (hs : M.Item.sz x ≤ 1073741824) : m_spec_l6Item x = some x := by
  simp only [M.Item.sz] at hs
  unfold m_spec_l6Item
  rw [p_spec_l5Copy _ (by omega), Option.bind_some]
theorem p_impl_copyRecord (x : M.Record) (hs : M.Record.sz x ≤ 1073741824) : m_impl_copyRecord x = some x := by
  simp only [M.Record.sz] at hs
  unfold m_impl_copyRecord
  rw [app0 (by omega) (by omega), Option.bind_some]
theorem p_impl_copyItem (x : M.Item) (hs : M.Item.sz x ≤ 1073741824) : m_impl_copyItem x = some x := by
  simp only [M.Item.sz] at hs
  unfold m_impl_copyItem
  rw [p_impl_copyRecord _ (by omega), Option.bind_some]
end Go.Proofs.YtgemmnkhddlhpaaGreat.gen
