/-
  Helper text: plain laws of the functions. No conditions beyond those of each law.
-/
import Derived.Test.YtfecchihbhpelaaGreatPendingWritesPz
namespace Go.Proofs.YtfecchihbhpelaaGreat.gen
open Go Go.Sh
set_option linter.unusedVariables false
set_option linter.unusedSimpArgs false
def nPend (s : Int) (b : M.Bucket) : Int := IntKind.i64.wrap (s + (b.Replica.Sync.Outbox.Writes.length : Int))
theorem p_impl_PendingCount (y : M.Sync) : m_impl_PendingCount y = some (y.Outbox.Writes.length : Int) := rfl
theorem p_spec_PendingWrites {w : M.World} (hw : w.ok) : m_spec_PendingWrites w = some (w.Storage.Buckets.foldl nPend 0) := by
  have hm := le_max hw.Storage.Buckets.1
  unfold m_spec_PendingWrites
  refine sumAll (L := m_spec_PendingWrites_L1 w) (step := nPend) (E := some) hw.Storage.Buckets.1 (fun n s k hk => ?_) (fun n s => ?_) 0
  · simp only [m_spec_PendingWrites_L1]
    rw [if_pos (lt_nat hk), idx_nat hk, Option.bind_some, wrapn (by omega)]
    rfl
  · simp only [m_spec_PendingWrites_L1]
    rw [if_neg (by rw [nlt_nat]; simp)]
theorem p_impl_PendingWrites {w : M.World} (hw : w.ok) : m_impl_PendingWrites w = some (w.Storage.Buckets.foldl nPend 0) := by
  have hm := le_max hw.Storage.Buckets.1
  unfold m_impl_PendingWrites
  refine sumAll (L := m_impl_PendingWrites_L1 w) (step := nPend) (E := some) hw.Storage.Buckets.1 (fun n s k hk => ?_) (fun n s => ?_) 0
  · simp only [m_impl_PendingWrites_L1]
    rw [if_pos (lt_nat hk), idx_nat hk, Option.bind_some, p_impl_PendingCount, Option.bind_some, wrapn (by omega)]
    rfl
  · simp only [m_impl_PendingWrites_L1]
    rw [if_neg (by rw [nlt_nat]; simp)]
end Go.Proofs.YtfecchihbhpelaaGreat.gen
