/-
  Helper text: plain laws of the functions. No conditions beyond those of each law.
-/
import Derived.Test.YtmpbibngijnfeaaGreatUPc
namespace Go.Proofs.YtmpbibngijnfeaaGreat.gen
open Go Go.Sh
set_option linter.unusedVariables false
set_option linter.unusedSimpArgs false
def nItemAt (l : List M.Item) (k : Nat) : Bool := (l[k]?).any (fun x => nKey x.Key && nRecord x.Record) && (decide (k = 0) || (l[k - 1]?).any fun y => (l[k]?).any fun x => decide (nCompareKeys y.Key x.Key < 0))
def nStore (s : M.Store) : Bool := (List.range s.Items.length).all (nItemAt s.Items) && (nName s.Name && (decide (s.Items.length ≤ 16) && inR s.Auto 0 1000000))
def nQueued (x : M.Write) : Bool := inR x.Device 1 1000000 && (inR x.Seq 1 1000000 && (nKey x.Key && (nName x.Field && inR x.N 0 1000000000)))
def nWriteAt (o : M.Outbox) (k : Nat) : Bool := (o.Writes[k]?).any fun x => nQueued x && ((x.Device == o.Device) && (x.Seq == IntKind.i64.wrap ((IntKind.i64.wrap (o.Next - (List.length o.Writes : Int))) + (k : Int))))
def nOutbox (o : M.Outbox) : Bool := (List.range o.Writes.length).all (nWriteAt o) && (inR o.Device 1 1000000 && (inR o.Next 1 1000000 && decide (o.Writes.length ≤ 20)))
theorem p_spec_IsStore {s : M.Store} (hs : s.ok) : m_spec_IsStore s = some (nStore s) := by
  have hm := le_max hs.Items.1
  unfold m_spec_IsStore nStore
  rw [chkAll (L := m_spec_IsStore_L1 s) (g := nItemAt s.Items) (F := some false) (E := some (nName s.Name && (decide (s.Items.length ≤ 16) && inR s.Auto 0 1000000))) hs.Items.1 (fun n k hk => ?_) (fun n => ?_), ite_and]
  · have hf := hs.Items.2 _ (List.getElem_mem hk)
    simp only [m_spec_IsStore_L1]
    rw [if_pos (lt_nat hk), idx_nat hk, Option.bind_some, wrapn (by omega), p_spec_IsKey hf.Key, Option.bind_some, p_spec_IsRecord hf.Record, Option.bind_some]
    unfold nItemAt
    rw [List.getElem?_eq_getElem hk]
    generalize m_spec_IsStore_L1 s n ((k + 1 : Nat) : Int) = Z
    by_cases h0 : k = 0
    · subst h0
      simp only [Option.any_some]
      generalize nKey s.Items[0].Key = a
      generalize nRecord s.Items[0].Record = b
      cases a <;> cases b <;> simp
    · have e : IntKind.i64.wrap ((k : Int) - 1) = ((k - 1 : Nat) : Int) := by rw [wrap_ok (by omega) (by omega)]; omega
      have hk1 : k - 1 < s.Items.length := by omega
      have hg := hs.Items.2 _ (List.getElem_mem hk1)
      rw [if_pos (c := (decide ((k : Int) > 0)) = true) (by simp; omega), e, idx_nat hk1, Option.bind_some, p_spec_CompareKeys hg.Key hf.Key, Option.bind_some, List.getElem?_eq_getElem hk1]
      simp only [Option.any_some, h0, decide_false, Bool.false_or]
      generalize nKey s.Items[k].Key = a
      generalize nRecord s.Items[k].Record = b
      by_cases hc : nCompareKeys s.Items[k - 1].Key s.Items[k].Key < 0
      · rw [if_neg (c := (decide (nCompareKeys s.Items[k - 1].Key s.Items[k].Key ≥ 0)) = true) (by simp; omega)]
        cases a <;> cases b <;> simp [hc]
      · rw [if_pos (c := (decide (nCompareKeys s.Items[k - 1].Key s.Items[k].Key ≥ 0)) = true) (by simp; omega)]
        cases a <;> cases b <;> simp [hc]
  · simp only [m_spec_IsStore_L1]
    rw [if_neg (by rw [nlt_nat]; simp), p_spec_IsName hs.Name, Option.bind_some, p_spec_l1In, Option.bind_some, ite_and, ite_and]
    congr 3
    simp; omega
theorem p_spec_IsQueuedWrite {x : M.Write} (hx : x.ok) : m_spec_IsQueuedWrite x = some (nQueued x) := by
  unfold m_spec_IsQueuedWrite nQueued
  simp only [p_spec_l1In, p_spec_IsKey hx.Key, p_spec_IsName hx.Field, Option.bind_some, ite_and]
theorem p_impl_IsStore {s : M.Store} (hs : s.ok) : m_impl_IsStore s = some (nStore s) := by
  have hm := le_max hs.Items.1
  unfold m_impl_IsStore nStore
  rw [chkAll (L := m_impl_IsStore_L1 s) (g := nItemAt s.Items) (F := some false) (E := some (nName s.Name && (decide (s.Items.length ≤ 16) && inR s.Auto 0 1000000))) hs.Items.1 (fun n k hk => ?_) (fun n => ?_), ite_and]
  · have hf := hs.Items.2 _ (List.getElem_mem hk)
    simp only [m_impl_IsStore_L1]
    rw [if_pos (lt_nat hk), idx_nat hk, Option.bind_some, wrapn (by omega), p_impl_IsKey hf.Key, Option.bind_some, p_impl_IsRecord hf.Record, Option.bind_some]
    unfold nItemAt
    rw [List.getElem?_eq_getElem hk]
    generalize m_impl_IsStore_L1 s n ((k + 1 : Nat) : Int) = Z
    by_cases h0 : k = 0
    · subst h0
      simp only [Option.any_some]
      generalize nKey s.Items[0].Key = a
      generalize nRecord s.Items[0].Record = b
      cases a <;> cases b <;> simp
    · have e : IntKind.i64.wrap ((k : Int) - 1) = ((k - 1 : Nat) : Int) := by rw [wrap_ok (by omega) (by omega)]; omega
      have hk1 : k - 1 < s.Items.length := by omega
      have hg := hs.Items.2 _ (List.getElem_mem hk1)
      rw [if_pos (c := (decide ((k : Int) > 0)) = true) (by simp; omega), e, idx_nat hk1, Option.bind_some, p_impl_CompareKeys hg.Key hf.Key, Option.bind_some, List.getElem?_eq_getElem hk1]
      simp only [Option.any_some, h0, decide_false, Bool.false_or]
      generalize nKey s.Items[k].Key = a
      generalize nRecord s.Items[k].Record = b
      by_cases hc : nCompareKeys s.Items[k - 1].Key s.Items[k].Key < 0
      · rw [if_neg (c := (decide (nCompareKeys s.Items[k - 1].Key s.Items[k].Key ≥ 0)) = true) (by simp; omega)]
        cases a <;> cases b <;> simp [hc]
      · rw [if_pos (c := (decide (nCompareKeys s.Items[k - 1].Key s.Items[k].Key ≥ 0)) = true) (by simp; omega)]
        cases a <;> cases b <;> simp [hc]
  · simp only [m_impl_IsStore_L1]
    rw [if_neg (by rw [nlt_nat]; simp), p_impl_IsName hs.Name, Option.bind_some, p_impl_InRange, Option.bind_some, ite_and, ite_and]
    congr 3
    simp; omega
theorem p_impl_IsQueuedWrite {x : M.Write} (hx : x.ok) : m_impl_IsQueuedWrite x = some (nQueued x) := by
  unfold m_impl_IsQueuedWrite nQueued
  simp only [p_impl_InRange, p_impl_IsKey hx.Key, p_impl_IsName hx.Field, Option.bind_some, ite_and]
theorem p_spec_IsOutbox {o : M.Outbox} (ho : o.ok) : m_spec_IsOutbox o = some (nOutbox o) := by
  have hm := le_max ho.Writes.1
  unfold m_spec_IsOutbox nOutbox
  rw [chkAll (L := m_spec_IsOutbox_L1 o) (g := nWriteAt o) (F := some false) (E := some true) ho.Writes.1 (fun n k hk => ?_) (fun n => ?_)]
  · simp only [p_spec_l1In, Option.bind_some]
    by_cases h : o.Writes.length ≤ 20
    · rw [if_neg (c := (decide ((List.length o.Writes : Int) > 20)) = true) (by simp; omega)]
      cases (List.range o.Writes.length).all (nWriteAt o) <;> cases inR o.Device 1 1000000 <;> cases inR o.Next 1 1000000 <;> simp [h]
    · rw [if_pos (c := (decide ((List.length o.Writes : Int) > 20)) = true) (by simp; omega)]
      cases inR o.Device 1 1000000 <;> cases inR o.Next 1 1000000 <;> simp [h]
  · have hf := ho.Writes.2 _ (List.getElem_mem hk)
    simp only [m_spec_IsOutbox_L1]
    rw [if_pos (lt_nat hk), idx_nat hk, Option.bind_some, wrapn (by omega), p_spec_IsQueuedWrite hf, Option.bind_some]
    unfold nWriteAt
    rw [List.getElem?_eq_getElem hk, Option.any_some]
    simp only [flip_bne, flip_not, ite2]
  · simp only [m_spec_IsOutbox_L1]
    rw [if_neg (by rw [nlt_nat]; simp)]
theorem p_impl_IsOutbox {o : M.Outbox} (ho : o.ok) : m_impl_IsOutbox o = some (nOutbox o) := by
  have hm := le_max ho.Writes.1
  unfold m_impl_IsOutbox nOutbox
  rw [chkAll (L := m_impl_IsOutbox_L1 o) (g := nWriteAt o) (F := some false) (E := some (inR o.Device 1 1000000 && (inR o.Next 1 1000000 && decide (o.Writes.length ≤ 20)))) ho.Writes.1 (fun n k hk => ?_) (fun n => ?_), ite_and]
  · have hf := ho.Writes.2 _ (List.getElem_mem hk)
    simp only [m_impl_IsOutbox_L1]
    rw [if_pos (lt_nat hk), idx_nat hk, Option.bind_some, wrapn (by omega), p_impl_IsQueuedWrite hf, Option.bind_some]
    unfold nWriteAt
    rw [List.getElem?_eq_getElem hk, Option.any_some]
    simp only [flip_bne, flip_not, ite2]
  · simp only [m_impl_IsOutbox_L1]
    rw [if_neg (by rw [nlt_nat]; simp)]
    simp only [p_impl_InRange, Option.bind_some, ite_and]
    congr 3
    simp; omega
def nReplica (r : M.Replica) : Bool := nStore r.Base && ((r.Base.Name.toList == (⟨#[110, 111, 116, 101, 115]⟩ : ByteArray).toList) && (inR r.Seen 0 1000000000000 && nOutbox r.Sync.Outbox))
theorem p_spec_IsReplica {r : M.Replica} (hr : r.ok) : m_spec_IsReplica r = some (nReplica r) := by
  unfold m_spec_IsReplica nReplica
  simp only [p_spec_IsStore hr.Base, p_spec_l1In, p_spec_IsOutbox hr.Sync.Outbox, Option.bind_some, ite_and]
theorem p_impl_IsReplica {r : M.Replica} (hr : r.ok) : m_impl_IsReplica r = some (nReplica r) := by
  unfold m_impl_IsReplica nReplica
  simp only [p_impl_IsStore hr.Base, p_impl_InRange, p_impl_IsOutbox hr.Sync.Outbox, Option.bind_some, ite_and]

end Go.Proofs.YtmpbibngijnfeaaGreat.gen
