/-
  Helper text: plain laws of the functions. No conditions beyond those of each law.
-/
import Derived.Test.YtmpbibngijnfeaaGreatUPf
namespace Go.Proofs.YtmpbibngijnfeaaGreat.gen
open Go Go.Sh
set_option linter.unusedVariables false
set_option linter.unusedSimpArgs false
def nNamed (a : ByteArray) (x : M.Store) : Bool := x.Name.toList == a.toList
theorem p_spec_FindStore {d : M.Database} {a : ByteArray} (hd : d.ok) : m_spec_FindStore d a = some (fidx (nNamed a) d.Stores) := by
  have hm := le_max hd.Stores.1
  unfold m_spec_FindStore
  rw [findAll (L := m_spec_FindStore_L1 d a) (f := nNamed a) (A := fun i => some (i : Int)) (E := some (-1)) hd.Stores.1 (fun m k hk => ?_) (fun m => ?_), fidx_some]
  · simp only [m_spec_FindStore_L1]
    rw [if_pos (lt_nat hk), idx_nat hk, Option.bind_some, wrapn (by omega)]
    rfl
  · simp only [m_spec_FindStore_L1]
    rw [if_neg (by rw [nlt_nat]; simp)]
theorem p_impl_FindStore {d : M.Database} {a : ByteArray} (hd : d.ok) : m_impl_FindStore d a = some (fidx (nNamed a) d.Stores) := by
  unfold m_impl_FindStore
  rw [p_IndexFunc_Store (f := nNamed a) hd.Stores.1 (fun x _ => by simp only [m_impl_FindStore_1]; rfl), Option.bind_some]
def nFieldIs (a : ByteArray) (x : M.Field) : Bool := x.Name.toList == a.toList
def nGetField (r : M.Record) (a : ByteArray) : Int × Bool := match r.Fields.find? (nFieldIs a) with | some x => (x.N, true) | none => (0, false)
theorem getField_loop {r : M.Record} {a : ByteArray} (hm : r.Fields.length ≤ 9223372036854775807) : ∀ (n k : Nat), r.Fields.length - k < n → k ≤ r.Fields.length → m_spec_GetField_L1 r a n (k : Int) = some (match (r.Fields.drop k).find? (nFieldIs a) with | some x => (x.N, true) | none => (0, false))
  | 0, k, h, _ => by omega
  | n + 1, k, h, hk => by
    simp only [m_spec_GetField_L1]
    rcases Nat.lt_or_ge k r.Fields.length with h1 | h1
    · rw [if_pos (lt_nat h1), idx_nat h1, Option.bind_some, wrapn (by omega), getField_loop hm n (k + 1) (by omega) h1, List.drop_eq_getElem_cons h1, List.find?_cons]
      cases e : nFieldIs a r.Fields[k] with
      | true => rw [if_pos (show (r.Fields[k].Name.toList == a.toList) = true from e)]
      | false => rw [if_neg (by rw [show (r.Fields[k].Name.toList == a.toList) = false from e]; simp)]
    · have : k = r.Fields.length := by omega
      subst this
      rw [if_neg (by rw [nlt_nat]; simp), List.drop_length]
      rfl
theorem p_spec_GetField {r : M.Record} {a : ByteArray} (hr : r.ok) : m_spec_GetField r a = some (nGetField r a) := by
  have hm := le_max hr.Fields.1
  have := getField_loop (a := a) hm fuel 0 (by unfold fuel; omega) (by omega)
  exact this
theorem p_impl_GetField {r : M.Record} {a : ByteArray} (hr : r.ok) : m_impl_GetField r a = some (nGetField r a) := by
  unfold m_impl_GetField m_impl_fieldAt nGetField
  rw [p_IndexFunc_Field (f := nFieldIs a) hr.Fields.1 (fun x _ => by simp only [m_impl_fieldAt_1]; rfl), Option.bind_some, Option.bind_some]
  by_cases h : fidx (nFieldIs a) r.Fields < 0
  · rw [if_pos (by simpa using h)]
    have : r.Fields.find? (nFieldIs a) = none := by
      have h2 := fidx_any (nFieldIs a) r.Fields
      rw [decide_eq_false (by omega)] at h2
      rw [List.find?_eq_none]
      intro x hx hf
      have h3 : r.Fields.any (nFieldIs a) = true := List.any_eq_true.2 ⟨x, hx, hf⟩
      rw [← h2] at h3
      cases h3
    rw [this]
  · obtain ⟨k, e, hk⟩ := fidx_nat h
    rw [if_neg (by simpa using h), e, idx_nat hk, Option.bind_some]
    have e2 : r.Fields.findIdx? (nFieldIs a) = some k := by
      unfold fidx at e
      cases e3 : r.Fields.findIdx? (nFieldIs a) with
      | none => rw [e3] at e; simp only at e; omega
      | some i => rw [e3] at e; simp only at e; congr 1; omega
    have e4 := List.findIdx?_eq_some_iff_getElem.1 e2
    have : r.Fields.find? (nFieldIs a) = some r.Fields[k] := by
      rw [List.find?_eq_some_iff_getElem]
      exact ⟨e4.2.1, k, hk, rfl, fun j hj => by simpa using e4.2.2 j hj⟩
    rw [this]
def nLess (a : ByteArray) (x y : M.Item) : Bool := decide ((nGetField x.Record a).1 < (nGetField y.Record a).1) || (((nGetField x.Record a).1 == (nGetField y.Record a).1) && decide (nCompareKeys x.Key y.Key < 0))
theorem p_spec_l7Less {x y : M.Item} {a : ByteArray} (hx : x.ok) (hy : y.ok) : m_spec_l7Less x y a = some (nLess a x y) := by
  unfold m_spec_l7Less nLess
  simp only [p_spec_GetField hx.Record, p_spec_GetField hy.Record, p_spec_CompareKeys hx.Key hy.Key, Option.bind_some, ite_and]
  cases decide ((nGetField x.Record a).1 < (nGetField y.Record a).1) <;> simp
theorem p_impl_fieldBefore {x y : M.Item} {a : ByteArray} (hx : x.ok) (hy : y.ok) : m_impl_fieldBefore x y a = some (nLess a x y) := by
  unfold m_impl_fieldBefore nLess
  simp only [p_impl_GetField hx.Record, p_impl_GetField hy.Record, p_impl_CompareKeys hx.Key hy.Key, Option.bind_some, ite_and]
  cases decide ((nGetField x.Record a).1 < (nGetField y.Record a).1) <;> simp

end Go.Proofs.YtmpbibngijnfeaaGreat.gen
