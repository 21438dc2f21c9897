/-
  Helper text: plain laws of the functions. No conditions beyond those of each law.
-/
import Derived.Test.YtmpbibngijnfeaaGreatUPa
namespace Go.Proofs.YtmpbibngijnfeaaGreat.gen
open Go Go.Sh
set_option linter.unusedVariables false
set_option linter.unusedSimpArgs false
def nSign (a b : Bool) : Int := if a = true then -1 else if b = true then 1 else 0
def nCompareKeys (x y : M.Key) : Int := if nKey x = true ∧ nKey y = true then (if x.Kind = y.Kind then (if x.N = y.N then (if Op.bytesLess x.Text.toList y.Text.toList = true then -1 else if (x.Text.toList == y.Text.toList) = true then 0 else 1) else if x.N < y.N then -1 else 1) else if x.Kind < y.Kind then -1 else 1) else 0
theorem p_spec_CompareKeys {x y : M.Key} (hx : x.ok) (hy : y.ok) : m_spec_CompareKeys x y = some (nCompareKeys x y) := by
  unfold m_spec_CompareKeys m_spec_l4Sign nCompareKeys
  rw [p_spec_IsKey hx, p_spec_IsKey hy]
  simp only [Option.bind_some]
  cases h1 : nKey x
  · simp
  cases h2 : nKey y
  · simp
  simp only [Bool.not_true, Bool.false_eq_true, if_false, if_true, and_self, bne_iff_ne, ne_eq, decide_eq_true_eq, Bool.not_eq_true', Bool.or_eq_false_iff, ite_not, Option.bind_some]
  repeat' split
  all_goals first | rfl | (exfalso; omega) | (simp_all; done) | (simp_all; omega)
theorem p_impl_CompareKeys {x y : M.Key} (hx : x.ok) (hy : y.ok) : m_impl_CompareKeys x y = some (nCompareKeys x y) := by
  have key : Lib.compareBytes x.Text.data.toList y.Text.data.toList = if Op.bytesLess x.Text.toList y.Text.toList = true then -1 else if (x.Text.toList == y.Text.toList) = true then 0 else 1 := by
    rw [compareBytes_eq, ← ByteArray.toList_eq, ← ByteArray.toList_eq]
  unfold m_impl_CompareKeys m_impl_compareInts m_strings_Compare m_internal_bytealg_CompareString nCompareKeys
  rw [p_impl_IsKey hx, p_impl_IsKey hy]
  simp only [Option.bind_some, key]
  cases h1 : nKey x
  · simp
  cases h2 : nKey y
  · simp
  simp only [Bool.not_true, Bool.false_eq_true, if_false, if_true, and_self, bne_iff_ne, ne_eq, decide_eq_true_eq, Bool.not_eq_true', Bool.or_eq_false_iff, ite_not, Option.bind_some]
  repeat' split
  all_goals first | rfl | (exfalso; omega) | (simp_all; done) | (simp_all; omega)
end Go.Proofs.YtmpbibngijnfeaaGreat.gen
