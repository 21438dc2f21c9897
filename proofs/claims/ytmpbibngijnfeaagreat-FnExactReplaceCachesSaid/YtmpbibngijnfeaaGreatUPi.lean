/-
  Helper text: plain laws of the functions. No conditions beyond those of each law.
-/
import Derived.Test.YtmpbibngijnfeaaGreatUPh
namespace Go.Proofs.YtmpbibngijnfeaaGreat.gen
open Go Go.Sh
set_option linter.unusedVariables false
set_option linter.unusedSimpArgs false
/-- the place at which an item goes into an index -/
def nPl (f : M.Item → Bool) (l : List M.Item) : Nat → Nat
  | 0 => 0
  | k + 1 => if (l[k]?).any f = true then nPl f l k else k + 1
theorem nPl_le (f : M.Item → Bool) (l : List M.Item) : ∀ k, nPl f l k ≤ k
  | 0 => by simp [nPl]
  | k + 1 => by
    unfold nPl
    split
    · exact Nat.le_succ_of_le (nPl_le f l k)
    · exact Nat.le_refl _
theorem idx_mem {α : Type} {l : List α} {i : Int} {x : α} (h : idx l i = some x) : x ∈ l := List.mem_of_getElem? (idx_some h).2.1
theorem slcHi_n {α : Type} {l : List α} {k : Nat} (h : k ≤ l.length) : slcHi l (k : Int) = some (l.take k) := by
  unfold slcHi
  rw [if_pos ⟨by omega, by simpa using h⟩, Int.toNat_natCast]
def nIns (a : ByteArray) (out : List M.Item) (x : M.Item) : List M.Item :=
  if (nGetField x.Record a).2 = true then out.take (nPl (nLess a x) out out.length) ++ (x :: out.drop (nPl (nLess a x) out out.length)) else out
def nIndex (s : M.Store) (a : ByteArray) : List M.Item := s.Items.foldl (nIns a) []
theorem nIns_len (a : ByteArray) (out : List M.Item) (x : M.Item) : (nIns a out x).length ≤ out.length + 1 := by
  unfold nIns
  have := nPl_le (nLess a x) out out.length
  split
  · simp only [List.length_append, List.length_take, List.length_cons, List.length_drop]; omega
  · omega
theorem nIns_mem {a : ByteArray} {out : List M.Item} {x y : M.Item} (h : y ∈ nIns a out x) : y = x ∨ y ∈ out := by
  unfold nIns at h
  split at h
  · rcases List.mem_append.1 h with h | h
    · exact .inr (List.mem_of_mem_take h)
    · rcases List.mem_cons.1 h with h | h
      · exact .inl h
      · exact .inr (List.mem_of_mem_drop h)
  · exact .inr h
theorem pl_spec {a : ByteArray} {l : List M.Item} {x : M.Item} {K : Int → Option (List M.Item)} (hl : l.length ≤ 1048576) (hx : x.ok) (ho : ∀ y ∈ l, M.Item.ok y) :
    ∀ (n k : Nat), k < n → k ≤ l.length → m_spec_IndexOn_L2 a l x K n (k : Int) = K ((nPl (nLess a x) l k : Nat) : Int)
  | 0, k, h, _ => by omega
  | n + 1, 0, h, _ => by
    simp only [m_spec_IndexOn_L2, nPl]
    rw [if_neg (by simp)]
  | n + 1, k + 1, h, hk => by
    have hk' : k < l.length := by omega
    have e : IntKind.i64.wrap (((k + 1 : Nat) : Int) - 1) = (k : Int) := by rw [wrap_ok (by omega) (by omega)]; omega
    simp only [m_spec_IndexOn_L2]
    rw [if_pos (by simp), e, idx_nat hk', Option.bind_some, p_spec_l7Less hx (ho _ (List.getElem_mem hk')), Option.bind_some, nPl, List.getElem?_eq_getElem hk', Option.any_some]
    cases hc : nLess a x l[k] with
    | true => rw [if_pos rfl, if_pos rfl]; exact pl_spec hl hx ho n k (by omega) (by omega)
    | false => rw [if_neg (by simp), if_neg (by simp)]
theorem pl_impl {a : ByteArray} {l : List M.Item} {x : M.Item} {K : Int → Option (List M.Item)} (hl : l.length ≤ 1048576) (hx : x.ok) (ho : ∀ y ∈ l, M.Item.ok y) :
    ∀ (n k : Nat), k < n → k ≤ l.length → m_impl_IndexOn_L2 a l x K n (k : Int) = K ((nPl (nLess a x) l k : Nat) : Int)
  | 0, k, h, _ => by omega
  | n + 1, 0, h, _ => by
    simp only [m_impl_IndexOn_L2, nPl]
    rw [if_neg (by simp)]
  | n + 1, k + 1, h, hk => by
    have hk' : k < l.length := by omega
    have e : IntKind.i64.wrap (((k + 1 : Nat) : Int) - 1) = (k : Int) := by rw [wrap_ok (by omega) (by omega)]; omega
    simp only [m_impl_IndexOn_L2]
    rw [if_pos (by simp), e, idx_nat hk', Option.bind_some, p_impl_fieldBefore hx (ho _ (List.getElem_mem hk')), Option.bind_some, nPl, List.getElem?_eq_getElem hk', Option.any_some]
    cases hc : nLess a x l[k] with
    | true => rw [if_pos rfl, if_pos rfl]; exact pl_impl hl hx ho n k (by omega) (by omega)
    | false => rw [if_neg (by simp), if_neg (by simp)]
theorem idx_spec {s : M.Store} {a : ByteArray} (hs : s.ok) (hz : M.Store.sz s ≤ 1048576) : m_spec_IndexOn s a = some (nIndex s a) ∧ (nIndex s a).length ≤ s.Items.length ∧ ∀ y ∈ nIndex s a, M.Item.ok y := by
  have hl : s.Items.length ≤ 1048576 := by simp only [M.Store.sz] at hz; omega
  unfold m_spec_IndexOn nIndex
  refine invAll (L := m_spec_IndexOn_L1 s a) (xs := s.Items) (step := nIns a) (I := fun k out => out.length ≤ k ∧ ∀ y ∈ out, M.Item.ok y) (E := fun out => some out) hs.Items.1 (fun out k hk hi => ⟨?_, fun y hy => ?_⟩) (fun n out k hk hi => ?_) (fun n out hi => ?_) [] ⟨Nat.le_refl _, by simp⟩
  · have := nIns_len a out s.Items[k]
    have := hi.1
    omega
  · rcases nIns_mem hy with rfl | hy
    · exact hs.Items.2 _ (List.getElem_mem hk)
    · exact hi.2 y hy
  · have hx := hs.Items.2 _ (List.getElem_mem hk)
    have hzx : M.Item.sz s.Items[k] ≤ 1073741824 := by
      have := szSum_le (f := M.Item.sz) (List.getElem_mem hk)
      simp only [M.Store.sz] at hz
      omega
    have hi1 := hi.1
    simp only [m_spec_IndexOn_L1]
    rw [if_pos (lt_nat hk), idx_nat hk, Option.bind_some, p_spec_GetField hx.Record, Option.bind_some, wrapn (by omega), flip_not]
    unfold nIns
    by_cases hg : (nGetField s.Items[k].Record a).2 = true
    · have hp := nPl_le (nLess a s.Items[k]) out out.length
      rw [if_pos hg, if_pos hg, pl_spec (by omega) hx hi.2 fuel out.length (by unfold fuel; omega) (Nat.le_refl _)]
      generalize nPl (nLess a s.Items[k]) out out.length = p at hp
      simp only [Int.toNat_natCast]
      rw [slcHi_n hp, Option.bind_some, app_ok (by simp only [List.length_nil, List.length_take]; omega), Option.bind_some, p_spec_l6Item _ hzx, Option.bind_some, app_ok (by simp only [List.length_cons, List.length_nil, List.length_take]; omega), Option.bind_some, app_ok (by simp only [List.length_append, List.length_cons, List.length_nil, List.length_take, List.length_drop]; omega), Option.bind_some, List.append_assoc, List.singleton_append]
    · rw [if_neg hg, if_neg hg]
  · simp only [m_spec_IndexOn_L1]
    rw [if_neg (by rw [nlt_nat]; simp)]
theorem idx_impl {s : M.Store} {a : ByteArray} (hs : s.ok) (hz : M.Store.sz s ≤ 1048576) : m_impl_IndexOn s a = some (nIndex s a) ∧ (nIndex s a).length ≤ s.Items.length ∧ ∀ y ∈ nIndex s a, M.Item.ok y := by
  have hl : s.Items.length ≤ 1048576 := by simp only [M.Store.sz] at hz; omega
  unfold m_impl_IndexOn nIndex
  refine invAll (L := m_impl_IndexOn_L1 s a) (xs := s.Items) (step := nIns a) (I := fun k out => out.length ≤ k ∧ ∀ y ∈ out, M.Item.ok y) (E := fun out => some out) hs.Items.1 (fun out k hk hi => ⟨?_, fun y hy => ?_⟩) (fun n out k hk hi => ?_) (fun n out hi => ?_) [] ⟨Nat.le_refl _, by simp⟩
  · have := nIns_len a out s.Items[k]
    have := hi.1
    omega
  · rcases nIns_mem hy with rfl | hy
    · exact hs.Items.2 _ (List.getElem_mem hk)
    · exact hi.2 y hy
  · have hx := hs.Items.2 _ (List.getElem_mem hk)
    have hzx : M.Item.sz s.Items[k] ≤ 1073741824 := by
      have := szSum_le (f := M.Item.sz) (List.getElem_mem hk)
      simp only [M.Store.sz] at hz
      omega
    have hi1 := hi.1
    simp only [m_impl_IndexOn_L1]
    rw [if_pos (lt_nat hk), idx_nat hk, Option.bind_some, p_impl_GetField hx.Record, Option.bind_some, wrapn (by omega), flip_not]
    unfold nIns
    by_cases hg : (nGetField s.Items[k].Record a).2 = true
    · have hp := nPl_le (nLess a s.Items[k]) out out.length
      rw [if_pos hg, if_pos hg, pl_impl (by omega) hx hi.2 fuel out.length (by unfold fuel; omega) (Nat.le_refl _)]
      generalize nPl (nLess a s.Items[k]) out out.length = p at hp
      simp only [Int.toNat_natCast]
      rw [p_impl_copyItem _ hzx, Option.bind_some, insAt_ok ⟨by omega, by simpa using hp, by simp, by simp only [List.length_cons, List.length_nil]; omega⟩, Option.bind_some, List.singleton_append]
    · rw [if_neg hg, if_neg hg]
  · simp only [m_impl_IndexOn_L1]
    rw [if_neg (by rw [nlt_nat]; simp)]

theorem uf_same {a : ByteArray} {l : List M.Item} (ho : ∀ y ∈ l, M.Item.ok y) : ∀ (n : Nat) (v : Int), m_spec_UniqueFault_L1 a l n v = m_impl_UniqueFault_L1 a l n v
  | 0, v => rfl
  | n + 1, v => by
    simp only [m_spec_UniqueFault_L1, m_impl_UniqueFault_L1, uf_same ho n]
    cases h1 : idx l (IntKind.i64.wrap (v - 1)) with
    | none => rfl
    | some x =>
      have hx := (ho x (idx_mem h1)).Record
      simp only [Option.bind_some, p_spec_GetField hx, p_impl_GetField hx]
      cases h2 : idx l v with
      | none => rfl
      | some y =>
        have hy := (ho y (idx_mem h2)).Record
        simp only [Option.bind_some, p_spec_GetField hy, p_impl_GetField hy]
theorem uf_some {a : ByteArray} {l : List M.Item} (ho : ∀ y ∈ l, M.Item.ok y) (hl : l.length ≤ 1048576) : ∀ (n k : Nat), l.length - k < n → 1 ≤ k → ∃ r, m_impl_UniqueFault_L1 a l n (k : Int) = some r
  | 0, k, h, _ => by omega
  | n + 1, k, h, h1 => by
    simp only [m_impl_UniqueFault_L1]
    by_cases hk : k < l.length
    · have e : IntKind.i64.wrap ((k : Int) - 1) = ((k - 1 : Nat) : Int) := by rw [wrap_ok (by omega) (by omega)]; omega
      have hk1 : k - 1 < l.length := by omega
      rw [if_pos (lt_nat hk), e, idx_nat hk1, Option.bind_some, p_impl_GetField (ho _ (List.getElem_mem hk1)).Record, Option.bind_some, idx_nat hk, Option.bind_some, p_impl_GetField (ho _ (List.getElem_mem hk)).Record, Option.bind_some, wrapn (by omega)]
      split
      · exact ⟨_, rfl⟩
      · exact uf_some ho hl n (k + 1) (by omega) (by omega)
    · rw [if_neg (by simp; omega)]
      exact ⟨_, rfl⟩
def nFault (s : M.Store) (a : ByteArray) : M.Key × M.Key × Bool := (m_impl_UniqueFault s a).getD (⟨0, 0, ⟨#[]⟩⟩, ⟨0, 0, ⟨#[]⟩⟩, false)
theorem p_impl_UniqueFault {s : M.Store} {a : ByteArray} (hs : s.ok) (hz : M.Store.sz s ≤ 1048576) : m_impl_UniqueFault s a = some (nFault s a) := by
  obtain ⟨e, hl, ho⟩ := idx_impl (a := a) hs hz
  have hl2 : s.Items.length ≤ 1048576 := by simp only [M.Store.sz] at hz; omega
  obtain ⟨r, hr⟩ := uf_some (a := a) ho (by omega) fuel 1 (by unfold fuel; omega) (by omega)
  have : m_impl_UniqueFault s a = some r := by
    unfold m_impl_UniqueFault
    rw [e, Option.bind_some]
    exact hr
  unfold nFault
  rw [this]
  rfl
theorem p_spec_UniqueFault {s : M.Store} {a : ByteArray} (hs : s.ok) (hz : M.Store.sz s ≤ 1048576) : m_spec_UniqueFault s a = some (nFault s a) := by
  obtain ⟨e, hl, ho⟩ := idx_spec (a := a) hs hz
  obtain ⟨e2, _⟩ := idx_impl (a := a) hs hz
  rw [← p_impl_UniqueFault hs hz]
  unfold m_spec_UniqueFault m_impl_UniqueFault
  rw [e, e2, Option.bind_some, Option.bind_some]
  exact uf_same ho _ _

def nStoreAt (l : List M.Store) (k : Nat) : Bool := (l[k]?).any nStore && (decide (k = 0) || (l[k - 1]?).any fun y => (l[k]?).any fun x => Op.bytesLess y.Name.toList x.Name.toList)
def nSameDef (x y : M.IndexDef) : Bool := (x.Store.toList == y.Store.toList) && (x.Field.toList == y.Field.toList)
def nNoDup (l : List M.IndexDef) (k : Nat) (x : M.IndexDef) : Bool := (List.range k).all fun j => !((l[j]?).any fun y => nSameDef y x)
def nUniqAt (d : M.Database) (k : Nat) : Bool := (d.Unique[k]?).any fun u => decide (0 ≤ fidx (nNamed u.Store) d.Stores) && (nName u.Field && (!((d.Stores[(fidx (nNamed u.Store) d.Stores).toNat]?).any fun s => (nFault s u.Field).2.2) && nNoDup d.Unique k u))
def nDb (d : M.Database) : Bool := (List.range d.Stores.length).all (nStoreAt d.Stores) && ((List.range d.Unique.length).all (nUniqAt d) && (nName d.Name && (inR d.Version 0 1000 && (decide (d.Stores.length ≤ 4) && decide (d.Unique.length ≤ 4)))))
theorem any_take {l : List M.IndexDef} {k : Nat} {x : M.IndexDef} (hk : k ≤ l.length) : (l.take k).any (nSameDef x) = !(nNoDup l k x) := by
  have hc : ∀ y, nSameDef y x = nSameDef x y := fun y => by
    unfold nSameDef
    rw [BEq.comm (a := y.Store.toList), BEq.comm (a := y.Field.toList)]
  unfold nNoDup
  rw [Bool.eq_iff_iff]
  simp only [List.any_eq_true, Bool.not_eq_true', List.all_eq_false, List.mem_range, Bool.not_eq_true, Bool.not_eq_false', hc]
  constructor
  · rintro ⟨y, hy, hs⟩
    obtain ⟨j, hj, rfl⟩ := List.mem_iff_getElem.1 hy
    rw [List.length_take] at hj
    refine ⟨j, by omega, ?_⟩
    rw [List.getElem?_eq_getElem (by omega), Option.any_some]
    rw [List.getElem_take] at hs
    simp [hs]
  · rintro ⟨j, hj, hs⟩
    rw [List.getElem?_eq_getElem (by omega), Option.any_some] at hs
    refine ⟨l[j], List.mem_iff_getElem.2 ⟨j, by rw [List.length_take]; omega, by rw [List.getElem_take]⟩, by simpa using hs⟩
theorem p_Contains_Def {l : List M.IndexDef} {x : M.IndexDef} (hl : l.length ≤ maxLen) : m_slices_Contains_IndexDef l x = some (l.any (nSameDef x)) := by
  have hm := le_max hl
  have : m_slices_Index_IndexDef l x = some (fidx (nSameDef x) l) := by
    unfold m_slices_Index_IndexDef
    rw [findAll (L := m_slices_Index_IndexDef_L1 l x) (f := nSameDef x) (A := fun i => some (i : Int)) (E := some (-1)) hl (fun m k hk => ?_) (fun m => ?_), fidx_some]
    · simp only [m_slices_Index_IndexDef_L1]
      rw [if_pos (lt_nat hk), idx_nat hk, Option.bind_some, wrapn (by omega)]
      rfl
    · simp only [m_slices_Index_IndexDef_L1]
      rw [if_neg (by rw [nlt_nat]; simp)]
  unfold m_slices_Contains_IndexDef
  rw [this, Option.bind_some, fidx_any]
theorem noDup_spec {d : M.Database} {u : M.IndexDef} {k : Nat} {K : Int → Option Bool} (hm : d.Unique.length ≤ maxLen) (hk : k ≤ d.Unique.length) : m_spec_IsDatabase_L3 d (k : Int) u K fuel 0 = if nNoDup d.Unique k u = true then K (k : Int) else some false := by
  have hm' := le_max hm
  refine chkAll (L := m_spec_IsDatabase_L3 d (k : Int) u K) (g := fun j => !((d.Unique[j]?).any fun y => nSameDef y u)) (F := some false) (E := K (k : Int)) (Nat.le_trans hk hm) (fun n j hj => ?_) (fun n => ?_)
  · have hj' : j < d.Unique.length := by omega
    simp only [m_spec_IsDatabase_L3]
    rw [if_pos (lt_nat hj), idx_nat hj', Option.bind_some, wrapn (by omega), List.getElem?_eq_getElem hj', Option.any_some, flip_not]
    rfl
  · simp only [m_spec_IsDatabase_L3]
    rw [if_neg (by rw [nlt_nat]; simp)]
theorem store_sz {d : M.Database} (hz : M.Database.sz d ≤ 1048576) : ∀ s ∈ d.Stores, M.Store.sz s ≤ 1048576 := fun s hs => by
  have := szSum_le (f := M.Store.sz) hs
  simp only [M.Database.sz] at hz
  omega
theorem not_less (a b : List UInt8) : (Op.bytesLess a b || a == b) = !(Op.bytesLess b a) := by
  have h := bytesLess_tri b a
  cases h1 : Op.bytesLess b a <;> cases h2 : (Op.bytesLess a b || a == b) <;> simp_all
theorem p_spec_IsDatabase {d : M.Database} (hd : d.ok) (hz : M.Database.sz d ≤ 1048576) : m_spec_IsDatabase d = some (nDb d) := by
  have hm := le_max hd.Stores.1
  have hm2 := le_max hd.Unique.1
  unfold m_spec_IsDatabase nDb
  rw [chkAll (L := m_spec_IsDatabase_L1 d) (g := nStoreAt d.Stores) (F := some false) (E := m_spec_IsDatabase_L2 d fuel 0) hd.Stores.1 (fun n k hk => ?_) (fun n => ?_),
    chkAll (L := m_spec_IsDatabase_L2 d) (g := nUniqAt d) (F := some false) (E := some (nName d.Name && (inR d.Version 0 1000 && (decide (d.Stores.length ≤ 4) && decide (d.Unique.length ≤ 4))))) hd.Unique.1 (fun n k hk => ?_) (fun n => ?_), ite_and, ite_and]
  · have hf := hd.Unique.2 _ (List.getElem_mem hk)
    simp only [m_spec_IsDatabase_L2]
    rw [if_pos (lt_nat hk), idx_nat hk, Option.bind_some, p_spec_FindStore hd, Option.bind_some, wrapn (by omega)]
    unfold nUniqAt
    rw [List.getElem?_eq_getElem hk, Option.any_some, p_spec_IsName hf.Field, Option.bind_some]
    by_cases h : fidx (nNamed d.Unique[k].Store) d.Stores < 0
    · rw [if_pos (by simpa using h), decide_eq_false (by omega)]
      simp
    · obtain ⟨j, e, hj⟩ := fidx_nat h
      have hs := hd.Stores.2 _ (List.getElem_mem hj)
      rw [if_neg (by simpa using h), e, idx_nat hj, Option.bind_some, p_spec_UniqueFault hs (store_sz hz _ (List.getElem_mem hj)), Option.bind_some, Int.toNat_natCast, List.getElem?_eq_getElem hj, Option.any_some, noDup_spec hd.Unique.1 (by omega)]
      have : decide ((0 : Int) ≤ (j : Int)) = true := by simp
      rw [this]
      generalize m_spec_IsDatabase_L2 d n ((k + 1 : Nat) : Int) = Z
      cases nName d.Unique[k].Field <;> cases (nFault d.Stores[j] d.Unique[k].Field).2.2 <;> cases nNoDup d.Unique k d.Unique[k] <;> simp
  · simp only [m_spec_IsDatabase_L2]
    rw [if_neg (by rw [nlt_nat]; simp), p_spec_IsName hd.Name, Option.bind_some, p_spec_l1In, Option.bind_some, ite_and, ite_and, ite_and]
    congr 3
    have e1 : decide ((d.Stores.length : Int) ≤ 4) = decide (d.Stores.length ≤ 4) := by rw [Bool.eq_iff_iff]; simp; omega
    have e2 : decide ((d.Unique.length : Int) ≤ 4) = decide (d.Unique.length ≤ 4) := by rw [Bool.eq_iff_iff]; simp; omega
    rw [e1, e2]
  · have hf := hd.Stores.2 _ (List.getElem_mem hk)
    simp only [m_spec_IsDatabase_L1]
    rw [if_pos (lt_nat hk), idx_nat hk, Option.bind_some, wrapn (by omega), p_spec_IsStore hf, Option.bind_some]
    unfold nStoreAt
    rw [List.getElem?_eq_getElem hk]
    generalize m_spec_IsDatabase_L1 d n ((k + 1 : Nat) : Int) = Z
    by_cases h0 : k = 0
    · subst h0
      simp only [Option.any_some]
      cases nStore d.Stores[0] <;> simp
    · have e : IntKind.i64.wrap ((k : Int) - 1) = ((k - 1 : Nat) : Int) := by rw [wrap_ok (by omega) (by omega)]; omega
      have hk1 : k - 1 < d.Stores.length := by omega
      rw [if_pos (c := (decide ((k : Int) > 0)) = true) (by simp; omega), e, idx_nat hk1, Option.bind_some, List.getElem?_eq_getElem hk1]
      simp only [Option.any_some, h0, decide_false, Bool.false_or]
      cases nStore d.Stores[k] <;> cases Op.bytesLess d.Stores[k - 1].Name.toList d.Stores[k].Name.toList <;> simp
  · simp only [m_spec_IsDatabase_L1]
    rw [if_neg (by rw [nlt_nat]; simp)]
theorem p_impl_IsDatabase {d : M.Database} (hd : d.ok) (hz : M.Database.sz d ≤ 1048576) : m_impl_IsDatabase d = some (nDb d) := by
  have hm := le_max hd.Stores.1
  have hm2 := le_max hd.Unique.1
  unfold m_impl_IsDatabase nDb
  rw [chkAll (L := m_impl_IsDatabase_L1 d) (g := nStoreAt d.Stores) (F := some false) (E := m_impl_IsDatabase_L2 d fuel 0) hd.Stores.1 (fun n k hk => ?_) (fun n => ?_),
    chkAll (L := m_impl_IsDatabase_L2 d) (g := nUniqAt d) (F := some false) (E := some true) hd.Unique.1 (fun n k hk => ?_) (fun n => ?_)]
  · simp only [p_impl_IsName hd.Name, p_impl_InRange, Option.bind_some]
    have e1 : decide ((d.Stores.length : Int) > 4) = !decide (d.Stores.length ≤ 4) := by rw [Bool.eq_iff_iff]; simp; omega
    have e2 : decide ((d.Unique.length : Int) > 4) = !decide (d.Unique.length ≤ 4) := by rw [Bool.eq_iff_iff]; simp; omega
    rw [e1, e2]
    cases nName d.Name <;> cases inR d.Version 0 1000 <;> cases decide (d.Stores.length ≤ 4) <;> cases decide (d.Unique.length ≤ 4) <;> cases (List.range d.Stores.length).all (nStoreAt d.Stores) <;> cases (List.range d.Unique.length).all (nUniqAt d) <;> rfl
  · have hf := hd.Unique.2 _ (List.getElem_mem hk)
    simp only [m_impl_IsDatabase_L2]
    rw [if_pos (lt_nat hk), idx_nat hk, Option.bind_some, p_impl_FindStore hd, Option.bind_some, wrapn (by omega)]
    unfold nUniqAt
    rw [List.getElem?_eq_getElem hk, Option.any_some, p_impl_IsName hf.Field, Option.bind_some, slcHi_n (by omega), Option.bind_some, Int.toNat_natCast, p_Contains_Def (Nat.le_trans (by rw [List.length_take]; exact Nat.min_le_right _ _) hd.Unique.1), Option.bind_some, any_take (by omega)]
    by_cases h : fidx (nNamed d.Unique[k].Store) d.Stores < 0
    · rw [if_pos (by simpa using h), decide_eq_false (by omega)]
      simp
    · obtain ⟨j, e, hj⟩ := fidx_nat h
      have hs := hd.Stores.2 _ (List.getElem_mem hj)
      rw [if_neg (by simpa using h), e, idx_nat hj, Option.bind_some, p_impl_UniqueFault hs (store_sz hz _ (List.getElem_mem hj)), Option.bind_some, Int.toNat_natCast, List.getElem?_eq_getElem hj, Option.any_some]
      have : decide ((0 : Int) ≤ (j : Int)) = true := by simp
      rw [this]
      generalize m_impl_IsDatabase_L2 d n ((k + 1 : Nat) : Int) = Z
      cases nName d.Unique[k].Field <;> cases (nFault d.Stores[j] d.Unique[k].Field).2.2 <;> cases nNoDup d.Unique k d.Unique[k] <;> simp
  · simp only [m_impl_IsDatabase_L2]
    rw [if_neg (by rw [nlt_nat]; simp)]
  · have hf := hd.Stores.2 _ (List.getElem_mem hk)
    simp only [m_impl_IsDatabase_L1]
    rw [if_pos (lt_nat hk), idx_nat hk, Option.bind_some, wrapn (by omega), p_impl_IsStore hf, Option.bind_some]
    unfold nStoreAt
    rw [List.getElem?_eq_getElem hk]
    generalize m_impl_IsDatabase_L1 d n ((k + 1 : Nat) : Int) = Z
    by_cases h0 : k = 0
    · subst h0
      simp only [Option.any_some]
      cases nStore d.Stores[0] <;> simp
    · have e : IntKind.i64.wrap ((k : Int) - 1) = ((k - 1 : Nat) : Int) := by rw [wrap_ok (by omega) (by omega)]; omega
      have hk1 : k - 1 < d.Stores.length := by omega
      rw [if_pos (c := (decide ((k : Int) > 0)) = true) (by simp; omega), e, idx_nat hk1, Option.bind_some, List.getElem?_eq_getElem hk1, not_less]
      simp only [Option.any_some, h0, decide_false, Bool.false_or]
      cases nStore d.Stores[k] <;> cases Op.bytesLess d.Stores[k - 1].Name.toList d.Stores[k].Name.toList <;> simp
  · simp only [m_impl_IsDatabase_L1]
    rw [if_neg (by rw [nlt_nat]; simp)]

def nBucket (b : M.Bucket) : Bool := nName b.Site && (nName b.Top && (nReg b.Registration && ((b.Registration.Site.toList == b.Site.toList) && (nCacheSet b.Caches && (nDb b.Disk.Base && (nReplica b.Replica && (inR b.LastUsed 0 1000000000000 && decide (nUsage b ≤ 2500))))))))
theorem bucket_db {b : M.Bucket} (hz : M.Bucket.sz b ≤ 1048576) : M.Database.sz b.Disk.Base ≤ 1048576 := by
  simp only [M.Bucket.sz, M.Disk.sz] at hz
  omega
theorem p_spec_IsBucket' {b : M.Bucket} (hb : b.ok) (hz : M.Database.sz b.Disk.Base ≤ 1048576) : m_spec_IsBucket b = some (nBucket b) := by
  unfold m_spec_IsBucket nBucket
  simp only [p_spec_IsName hb.Site, p_spec_IsName hb.Top, p_spec_IsRegistration hb.Registration, p_spec_IsCacheSet hb.Caches, p_spec_IsDatabase hb.Disk.Base hz, p_spec_IsReplica hb.Replica, p_spec_l1In, p_spec_UsageOf hb, Option.bind_some, ite_and]
theorem p_spec_IsBucket {b : M.Bucket} (hb : b.ok) (hz : M.Bucket.sz b ≤ 1048576) : m_spec_IsBucket b = some (nBucket b) := p_spec_IsBucket' hb (bucket_db hz)
theorem p_impl_IsBucket' {b : M.Bucket} (hb : b.ok) (hz : M.Database.sz b.Disk.Base ≤ 1048576) : m_impl_IsBucket b = some (nBucket b) := by
  unfold m_impl_IsBucket nBucket
  simp only [p_impl_IsName hb.Site, p_impl_IsName hb.Top, p_impl_IsRegistration hb.Registration, p_impl_IsCacheSet hb.Caches, p_impl_IsDatabase hb.Disk.Base hz, p_impl_IsReplica hb.Replica, p_impl_InRange, p_impl_UsageOf hb, Option.bind_some, ite_and]
theorem p_impl_IsBucket {b : M.Bucket} (hb : b.ok) (hz : M.Bucket.sz b ≤ 1048576) : m_impl_IsBucket b = some (nBucket b) := p_impl_IsBucket' hb (bucket_db hz)

end Go.Proofs.YtmpbibngijnfeaaGreat.gen
