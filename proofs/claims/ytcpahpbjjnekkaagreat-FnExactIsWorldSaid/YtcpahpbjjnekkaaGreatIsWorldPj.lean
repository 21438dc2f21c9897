/-
  Helper text: plain laws of the functions. No conditions beyond those of each law.
-/
import Derived.Test.YtcpahpbjjnekkaaGreatIsWorldPi
namespace Go.Proofs.YtcpahpbjjnekkaaGreat.gen
open Go Go.Sh
set_option linter.unusedVariables false
set_option linter.unusedSimpArgs false
def nNames : List ByteArray := [(⟨#[98, 97, 110, 107]⟩ : ByteArray), (⟨#[110, 101, 119, 115]⟩ : ByteArray), (⟨#[115, 104, 111, 112]⟩ : ByteArray)]
def nSiteNo (a : ByteArray) : Int := fidx (fun x : ByteArray => x.toList == a.toList) nNames
theorem nNames_len : nNames.length ≤ maxLen := by unfold nNames maxLen; simp
theorem p_impl_SiteNumber {a : ByteArray} : m_impl_SiteNumber a = some (nSiteNo a) := by
  unfold m_impl_SiteNumber m_slices_Index_string
  rw [← nNames.eq_1]
  rw [findAll (L := m_slices_Index_string_L1 nNames a) (f := fun x : ByteArray => x.toList == a.toList) (A := fun i => some (i : Int)) (E := some (-1)) nNames_len (fun m k hk => ?_) (fun m => ?_), fidx_some]
  · rfl
  · have hk3 : k < 3 := hk
    simp only [m_slices_Index_string_L1]
    rw [if_pos (lt_nat hk), idx_nat hk, Option.bind_some, wrapn (by omega), Bool.beq_comm]
  · simp only [m_slices_Index_string_L1]
    rw [if_neg (by rw [nlt_nat]; simp)]
def nFileAt (l : List ByteArray) (k : Nat) : Bool := (l[k]?).any nName && (decide (k = 0) || (l[k - 1]?).any fun y => (l[k]?).any fun x => Op.bytesLess y.toList x.toList)
def nSite (s : M.Site) : Bool := (List.range s.Files.length).all (nFileAt s.Files) && (nName s.Name && (inR s.Version 1 1000000000000 && inR (s.Files.length : Int) 1 6))
theorem p_spec_IsSite {s : M.Site} (hs : s.ok) : m_spec_IsSite s = some (nSite s) := by
  have hm := le_max hs.Files.1
  unfold m_spec_IsSite nSite
  rw [chkAll (L := m_spec_IsSite_L1 s) (g := nFileAt s.Files) (F := some false) (E := some (nName s.Name && (inR s.Version 1 1000000000000 && inR (s.Files.length : Int) 1 6))) hs.Files.1 (fun n k hk => ?_) (fun n => ?_), ite_and]
  · have hf := hs.Files.2 _ (List.getElem_mem hk)
    simp only [m_spec_IsSite_L1]
    rw [if_pos (lt_nat hk), idx_nat hk, Option.bind_some, wrapn (by omega), p_spec_IsName hf, Option.bind_some]
    unfold nFileAt
    rw [List.getElem?_eq_getElem hk]
    generalize m_spec_IsSite_L1 s n ((k + 1 : Nat) : Int) = Z
    by_cases h0 : k = 0
    · subst h0
      simp only [Option.any_some]
      cases nName s.Files[0] <;> simp
    · have e : IntKind.i64.wrap ((k : Int) - 1) = ((k - 1 : Nat) : Int) := by rw [wrap_ok (by omega) (by omega)]; omega
      have hk1 : k - 1 < s.Files.length := by omega
      rw [if_pos (c := (decide ((k : Int) > 0)) = true) (by simp; omega), e, idx_nat hk1, Option.bind_some, List.getElem?_eq_getElem hk1]
      simp only [Option.any_some, h0, decide_false, Bool.false_or]
      cases nName s.Files[k] <;> cases Op.bytesLess s.Files[k - 1].toList s.Files[k].toList <;> simp
  · simp only [m_spec_IsSite_L1]
    rw [if_neg (by rw [nlt_nat]; simp), p_spec_IsName hs.Name, Option.bind_some, p_spec_l1In, Option.bind_some, p_spec_l1In, Option.bind_some, ite_and, ite_and]
theorem p_impl_IsSite {s : M.Site} (hs : s.ok) : m_impl_IsSite s = some (nSite s) := by
  have hm := le_max hs.Files.1
  unfold m_impl_IsSite nSite
  rw [chkAll (L := m_impl_IsSite_L1 s) (g := nFileAt s.Files) (F := some false) (E := some (nName s.Name && (inR s.Version 1 1000000000000 && inR (s.Files.length : Int) 1 6))) hs.Files.1 (fun n k hk => ?_) (fun n => ?_), ite_and]
  · have hf := hs.Files.2 _ (List.getElem_mem hk)
    simp only [m_impl_IsSite_L1]
    rw [if_pos (lt_nat hk), idx_nat hk, Option.bind_some, wrapn (by omega), p_impl_IsName hf, Option.bind_some]
    unfold nFileAt
    rw [List.getElem?_eq_getElem hk]
    generalize m_impl_IsSite_L1 s n ((k + 1 : Nat) : Int) = Z
    by_cases h0 : k = 0
    · subst h0
      simp only [Option.any_some]
      cases nName s.Files[0] <;> simp
    · have e : IntKind.i64.wrap ((k : Int) - 1) = ((k - 1 : Nat) : Int) := by rw [wrap_ok (by omega) (by omega)]; omega
      have hk1 : k - 1 < s.Files.length := by omega
      rw [if_pos (c := (decide ((k : Int) > 0)) = true) (by simp; omega), e, idx_nat hk1, Option.bind_some, List.getElem?_eq_getElem hk1, not_less]
      simp only [Option.any_some, h0, decide_false, Bool.false_or]
      cases nName s.Files[k] <;> cases Op.bytesLess s.Files[k - 1].toList s.Files[k].toList <;> simp
  · simp only [m_impl_IsSite_L1]
    rw [if_neg (by rw [nlt_nat]; simp), p_impl_IsName hs.Name, Option.bind_some, p_impl_InRange, Option.bind_some, p_impl_InRange, Option.bind_some, ite_and, ite_and]
def nAppliedAt (l : List M.Applied) (k : Nat) : Bool := (l[k]?).any (fun x => inR x.Device 1 1000000 && inR x.Seq 0 1000000) && (decide (k = 0) || (l[k - 1]?).any fun y => (l[k]?).any fun x => decide (y.Device < x.Device))
def nChangeAt (l : List M.Write) (k : Nat) : Bool := (l[k]?).any nQueued
def nServer (s : M.Server) : Bool := (List.range s.Applied.length).all (nAppliedAt s.Applied) && ((List.range s.Changes.length).all (nChangeAt s.Changes) && (nStore s.Store && ((s.Store.Name.toList == (⟨#[110, 111, 116, 101, 115]⟩ : ByteArray).toList) && decide ((s.Applied.length : Int) ≤ 60))))
theorem p_spec_IsServer {s : M.Server} (hs : s.ok) : m_spec_IsServer s = some (nServer s) := by
  have hm := le_max hs.Applied.1
  have hm2 := le_max hs.Changes.1
  unfold m_spec_IsServer nServer
  rw [chkAll (L := m_spec_IsServer_L1 s) (g := nAppliedAt s.Applied) (F := some false) (E := m_spec_IsServer_L2 s fuel 0) hs.Applied.1 (fun n k hk => ?_) (fun n => ?_),
    chkAll (L := m_spec_IsServer_L2 s) (g := nChangeAt s.Changes) (F := some false) (E := some (nStore s.Store && ((s.Store.Name.toList == (⟨#[110, 111, 116, 101, 115]⟩ : ByteArray).toList) && decide ((s.Applied.length : Int) ≤ 60)))) hs.Changes.1 (fun n k hk => ?_) (fun n => ?_), ite_and, ite_and]
  · have hf := hs.Changes.2 _ (List.getElem_mem hk)
    simp only [m_spec_IsServer_L2]
    rw [if_pos (lt_nat hk), idx_nat hk, Option.bind_some, wrapn (by omega), p_spec_IsQueuedWrite hf, Option.bind_some, flip_not]
    unfold nChangeAt
    rw [List.getElem?_eq_getElem hk, Option.any_some]
  · simp only [m_spec_IsServer_L2]
    rw [if_neg (by rw [nlt_nat]; simp), p_spec_IsStore hs.Store, Option.bind_some, ite_and, ite_and]
  · simp only [m_spec_IsServer_L1]
    rw [if_pos (lt_nat hk), idx_nat hk, Option.bind_some, wrapn (by omega), p_spec_l1In, Option.bind_some, p_spec_l1In, Option.bind_some]
    unfold nAppliedAt
    rw [List.getElem?_eq_getElem hk]
    generalize m_spec_IsServer_L1 s n ((k + 1 : Nat) : Int) = Z
    by_cases h0 : k = 0
    · subst h0
      simp only [Option.any_some]
      cases inR s.Applied[0].Device 1 1000000 <;> cases inR s.Applied[0].Seq 0 1000000 <;> simp
    · have e : IntKind.i64.wrap ((k : Int) - 1) = ((k - 1 : Nat) : Int) := by rw [wrap_ok (by omega) (by omega)]; omega
      have hk1 : k - 1 < s.Applied.length := by omega
      have ed : decide (s.Applied[k - 1].Device ≥ s.Applied[k].Device) = !decide (s.Applied[k - 1].Device < s.Applied[k].Device) := by rw [Bool.eq_iff_iff]; simp
      rw [if_pos (c := (decide ((k : Int) > 0)) = true) (by simp; omega), e, idx_nat hk1, Option.bind_some, List.getElem?_eq_getElem hk1, ed]
      simp only [Option.any_some, h0, decide_false, Bool.false_or]
      cases inR s.Applied[k].Device 1 1000000 <;> cases inR s.Applied[k].Seq 0 1000000 <;> cases decide (s.Applied[k - 1].Device < s.Applied[k].Device) <;> simp
  · simp only [m_spec_IsServer_L1]
    rw [if_neg (by rw [nlt_nat]; simp)]
theorem p_impl_IsServer {s : M.Server} (hs : s.ok) : m_impl_IsServer s = some (nServer s) := by
  have hm := le_max hs.Applied.1
  have hm2 := le_max hs.Changes.1
  unfold m_impl_IsServer nServer
  rw [chkAll (L := m_impl_IsServer_L1 s) (g := nAppliedAt s.Applied) (F := some false) (E := m_impl_IsServer_L2 s fuel 0) hs.Applied.1 (fun n k hk => ?_) (fun n => ?_),
    chkAll (L := m_impl_IsServer_L2 s) (g := nChangeAt s.Changes) (F := some false) (E := some (nStore s.Store && ((s.Store.Name.toList == (⟨#[110, 111, 116, 101, 115]⟩ : ByteArray).toList) && decide ((s.Applied.length : Int) ≤ 60)))) hs.Changes.1 (fun n k hk => ?_) (fun n => ?_), ite_and, ite_and]
  · have hf := hs.Changes.2 _ (List.getElem_mem hk)
    simp only [m_impl_IsServer_L2]
    rw [if_pos (lt_nat hk), idx_nat hk, Option.bind_some, wrapn (by omega), p_impl_IsQueuedWrite hf, Option.bind_some, flip_not]
    unfold nChangeAt
    rw [List.getElem?_eq_getElem hk, Option.any_some]
  · simp only [m_impl_IsServer_L2]
    rw [if_neg (by rw [nlt_nat]; simp), p_impl_IsStore hs.Store, Option.bind_some, ite_and, ite_and]
  · simp only [m_impl_IsServer_L1]
    rw [if_pos (lt_nat hk), idx_nat hk, Option.bind_some, wrapn (by omega), p_impl_InRange, Option.bind_some, p_impl_InRange, Option.bind_some]
    unfold nAppliedAt
    rw [List.getElem?_eq_getElem hk]
    generalize m_impl_IsServer_L1 s n ((k + 1 : Nat) : Int) = Z
    by_cases h0 : k = 0
    · subst h0
      simp only [Option.any_some]
      cases inR s.Applied[0].Device 1 1000000 <;> cases inR s.Applied[0].Seq 0 1000000 <;> simp
    · have e : IntKind.i64.wrap ((k : Int) - 1) = ((k - 1 : Nat) : Int) := by rw [wrap_ok (by omega) (by omega)]; omega
      have hk1 : k - 1 < s.Applied.length := by omega
      have ed : decide (s.Applied[k].Device ≤ s.Applied[k - 1].Device) = !decide (s.Applied[k - 1].Device < s.Applied[k].Device) := by rw [Bool.eq_iff_iff]; simp
      rw [if_pos (c := (decide ((k : Int) > 0)) = true) (by simp; omega), e, idx_nat hk1, Option.bind_some, List.getElem?_eq_getElem hk1, ed]
      simp only [Option.any_some, h0, decide_false, Bool.false_or]
      cases inR s.Applied[k].Device 1 1000000 <;> cases inR s.Applied[k].Seq 0 1000000 <;> cases decide (s.Applied[k - 1].Device < s.Applied[k].Device) <;> simp
  · simp only [m_impl_IsServer_L1]
    rw [if_neg (by rw [nlt_nat]; simp)]
def nLoadedAt (p : M.Page) (k : Nat) : Bool := (p.Loaded[k]?).any fun x => nName x.Path && (x.Version == p.Version)
def nPage (p : M.Page) : Bool := (List.range p.Loaded.length).all (nLoadedAt p) && (inR p.Id 1 1000000000000 && (nName p.Site && (nName p.Top && (inR p.Version 1 1000000000000 && decide ((p.Loaded.length : Int) ≤ 8)))))
theorem p_spec_IsPage {p : M.Page} (hp : p.ok) : m_spec_IsPage p = some (nPage p) := by
  have hm := le_max hp.Loaded.1
  unfold m_spec_IsPage nPage
  rw [chkAll (L := m_spec_IsPage_L1 p) (g := nLoadedAt p) (F := some false) (E := some (inR p.Id 1 1000000000000 && (nName p.Site && (nName p.Top && (inR p.Version 1 1000000000000 && decide ((p.Loaded.length : Int) ≤ 8)))))) hp.Loaded.1 (fun n k hk => ?_) (fun n => ?_), ite_and]
  · have hf := hp.Loaded.2 _ (List.getElem_mem hk)
    simp only [m_spec_IsPage_L1]
    rw [if_pos (lt_nat hk), idx_nat hk, Option.bind_some, wrapn (by omega), p_spec_IsName hf.Path, Option.bind_some]
    unfold nLoadedAt
    rw [List.getElem?_eq_getElem hk, Option.any_some]
    simp only [flip_bne, flip_not, ite2]
  · simp only [m_spec_IsPage_L1]
    rw [if_neg (by rw [nlt_nat]; simp)]
    simp only [p_spec_IsName hp.Site, p_spec_IsName hp.Top, p_spec_l1In, Option.bind_some, ite_and]
theorem p_impl_IsPage {p : M.Page} (hp : p.ok) : m_impl_IsPage p = some (nPage p) := by
  have hm := le_max hp.Loaded.1
  unfold m_impl_IsPage nPage
  rw [chkAll (L := m_impl_IsPage_L1 p) (g := nLoadedAt p) (F := some false) (E := some (inR p.Id 1 1000000000000 && (nName p.Site && (nName p.Top && (inR p.Version 1 1000000000000 && decide ((p.Loaded.length : Int) ≤ 8)))))) hp.Loaded.1 (fun n k hk => ?_) (fun n => ?_), ite_and]
  · have hf := hp.Loaded.2 _ (List.getElem_mem hk)
    simp only [m_impl_IsPage_L1]
    rw [if_pos (lt_nat hk), idx_nat hk, Option.bind_some, wrapn (by omega), p_impl_IsName hf.Path, Option.bind_some]
    unfold nLoadedAt
    rw [List.getElem?_eq_getElem hk, Option.any_some]
    simp only [flip_bne, flip_not, ite2]
  · simp only [m_impl_IsPage_L1]
    rw [if_neg (by rw [nlt_nat]; simp)]
    simp only [p_impl_IsName hp.Site, p_impl_IsName hp.Top, p_impl_InRange, Option.bind_some, ite_and]
theorem p_spec_IsLockName {s : ByteArray} (hs : s.size ≤ maxLen) : m_spec_IsLockName s = some (nWord s 30 true) := by
  have hm := le_max hs
  unfold m_spec_IsLockName nWord
  rw [ballLoop (L := m_spec_IsLockName_L1 s) (g := nWordB true) (F := some false) (E := some (inR (s.size : Int) 1 30)) hs (fun n k hk => ?_) (fun n => ?_), ite_and]
  · simp only [m_spec_IsLockName_L1]
    rw [if_pos (lt_nat hk), sidx_nat hk, Option.bind_some, wrapn (by omega)]
    generalize s[k] = b
    unfold nWordB
    generalize m_spec_IsLockName_L1 s n ((k + 1 : Nat) : Int) = Z
    simp only [Bool.or_eq_true, Bool.and_eq_true, decide_eq_true_eq, Bool.not_eq_true', decide_eq_false_iff_not, Bool.true_and, bne_iff_ne, ne_eq]
    repeat' split
    all_goals first | rfl | (exfalso; omega)
  · simp only [m_spec_IsLockName_L1]
    rw [if_neg (by rw [nlt_nat]; simp), p_spec_l1In, Option.bind_some]
theorem p_impl_IsLockName {s : ByteArray} (hs : s.size ≤ maxLen) : m_impl_IsLockName s = some (nWord s 30 true) := by
  unfold m_impl_IsLockName
  rw [p_impl_isWord hs, Option.bind_some]
def nClash (x y : M.Lock) : Bool := x.Held && ((y.Name.toList == x.Name.toList) && (!y.Held || (!x.Shared || !y.Shared)))
def nNoClash (l : List M.Lock) (k : Nat) (x : M.Lock) : Bool := (List.range k).all fun j => !((l[j]?).any (nClash x))
def nLockAt (l : List M.Lock) (k : Nat) : Bool := (l[k]?).any fun x => nWord x.Name 30 true && (inR x.Page 1 1000000000000 && nNoClash l k x)
def nLocks (t : M.LockTable) : Bool := (List.range t.Locks.length).all (nLockAt t.Locks) && decide ((t.Locks.length : Int) ≤ 12)
theorem clash_spec {t : M.LockTable} {x : M.Lock} {k : Nat} {K : Int → Option Bool} (hm : t.Locks.length ≤ maxLen) (hk : k ≤ t.Locks.length) : m_spec_IsLockTable_L2 t (k : Int) x K fuel 0 = if nNoClash t.Locks k x = true then K (k : Int) else some false := by
  have hm' := le_max hm
  refine chkAll (L := m_spec_IsLockTable_L2 t (k : Int) x K) (g := fun j => !((t.Locks[j]?).any (nClash x))) (F := some false) (E := K (k : Int)) (Nat.le_trans hk hm) (fun n j hj => ?_) (fun n => ?_)
  · have hj' : j < t.Locks.length := by omega
    simp only [m_spec_IsLockTable_L2]
    rw [if_pos (lt_nat hj), idx_nat hj', Option.bind_some, wrapn (by omega), List.getElem?_eq_getElem hj', Option.any_some]
    unfold nClash
    generalize m_spec_IsLockTable_L2 t (k : Int) x K n ((j + 1 : Nat) : Int) = Z
    cases x.Held <;> cases (t.Locks[j].Name.toList == x.Name.toList) <;> cases t.Locks[j].Held <;> cases x.Shared <;> cases t.Locks[j].Shared <;> simp
  · simp only [m_spec_IsLockTable_L2]
    rw [if_neg (by rw [nlt_nat]; simp)]
theorem clash_impl {t : M.LockTable} {x : M.Lock} {k : Nat} {Z0 : Option Bool} (hm : t.Locks.length ≤ maxLen) (hk : k ≤ t.Locks.length) : m_impl_IsLockTable_L2 t (k : Int) x (fun _ => Z0) fuel 0 = if nNoClash t.Locks k x = true then Z0 else some false := by
  have hm' := le_max hm
  have hl : (t.Locks.take k).length = k := by rw [List.length_take]; omega
  have := chkAll (N := k) (L := m_impl_IsLockTable_L2 t (k : Int) x (fun _ => Z0)) (g := fun j => !((t.Locks[j]?).any (nClash x))) (F := some false) (E := Z0) (Nat.le_trans hk hm) (fun n j hj => ?_) (fun n => ?_)
  · exact this
  · have hj' : j < t.Locks.length := by omega
    simp only [m_impl_IsLockTable_L2, Int.toNat_natCast, hl]
    rw [if_pos (lt_nat hj), idx_nat (by rw [hl]; exact hj), Option.bind_some, wrapn (by omega), List.getElem?_eq_getElem hj', Option.any_some, List.getElem_take]
    unfold nClash
    generalize m_impl_IsLockTable_L2 t (k : Int) x (fun _ => Z0) n ((j + 1 : Nat) : Int) = Z
    cases x.Held <;> cases (t.Locks[j].Name.toList == x.Name.toList) <;> cases t.Locks[j].Held <;> cases x.Shared <;> cases t.Locks[j].Shared <;> simp
  · simp only [m_impl_IsLockTable_L2, Int.toNat_natCast, hl]
    rw [if_neg (by rw [nlt_nat]; simp)]
theorem p_spec_IsLockTable {t : M.LockTable} (ht : t.ok) : m_spec_IsLockTable t = some (nLocks t) := by
  have hm := le_max ht.Locks.1
  unfold m_spec_IsLockTable nLocks
  rw [chkAll (L := m_spec_IsLockTable_L1 t) (g := nLockAt t.Locks) (F := some false) (E := some (decide ((t.Locks.length : Int) ≤ 12))) ht.Locks.1 (fun n k hk => ?_) (fun n => ?_), ite_and]
  · have hf := ht.Locks.2 _ (List.getElem_mem hk)
    simp only [m_spec_IsLockTable_L1]
    rw [if_pos (lt_nat hk), idx_nat hk, Option.bind_some, wrapn (by omega), p_spec_IsLockName hf.Name, Option.bind_some, p_spec_l1In, Option.bind_some, clash_spec ht.Locks.1 (by omega)]
    unfold nLockAt
    rw [List.getElem?_eq_getElem hk, Option.any_some]
    generalize m_spec_IsLockTable_L1 t n ((k + 1 : Nat) : Int) = Z
    cases nWord t.Locks[k].Name 30 true <;> cases inR t.Locks[k].Page 1 1000000000000 <;> cases nNoClash t.Locks k t.Locks[k] <;> simp
  · simp only [m_spec_IsLockTable_L1]
    rw [if_neg (by rw [nlt_nat]; simp)]
theorem p_impl_IsLockTable {t : M.LockTable} (ht : t.ok) : m_impl_IsLockTable t = some (nLocks t) := by
  have hm := le_max ht.Locks.1
  unfold m_impl_IsLockTable nLocks
  rw [chkAll (L := m_impl_IsLockTable_L1 t) (g := nLockAt t.Locks) (F := some false) (E := some (decide ((t.Locks.length : Int) ≤ 12))) ht.Locks.1 (fun n k hk => ?_) (fun n => ?_), ite_and]
  · have hf := ht.Locks.2 _ (List.getElem_mem hk)
    simp only [m_impl_IsLockTable_L1]
    rw [if_pos (lt_nat hk), idx_nat hk, Option.bind_some, wrapn (by omega), p_impl_IsLockName hf.Name, Option.bind_some, p_impl_InRange, Option.bind_some, slcHi_n (by omega), Option.bind_some, clash_impl ht.Locks.1 (by omega)]
    unfold nLockAt
    rw [List.getElem?_eq_getElem hk, Option.any_some]
    generalize m_impl_IsLockTable_L1 t n ((k + 1 : Nat) : Int) = Z
    cases nWord t.Locks[k].Name 30 true <;> cases inR t.Locks[k].Page 1 1000000000000 <;> cases nNoClash t.Locks k t.Locks[k] <;> simp
  · simp only [m_impl_IsLockTable_L1]
    rw [if_neg (by rw [nlt_nat]; simp)]
theorem nNames3 : nNames.length = 3 := rfl
theorem siteNo_at {a : ByteArray} {k : Nat} (hk : k < nNames.length) : (nSiteNo a == (k : Int)) = (a.toList == (nNames[k]).toList) := by
  have d : ∀ i j : Nat, (hi : i < nNames.length) → (hj : j < nNames.length) → (nNames[i]).toList = (nNames[j]).toList → i = j := by
    intro i j hi hj h
    have e0 : (⟨#[98, 97, 110, 107]⟩ : ByteArray).toList = [98, 97, 110, 107] := by rw [ByteArray.toList_eq]
    have e1 : (⟨#[110, 101, 119, 115]⟩ : ByteArray).toList = [110, 101, 119, 115] := by rw [ByteArray.toList_eq]
    have e2 : (⟨#[115, 104, 111, 112]⟩ : ByteArray).toList = [115, 104, 111, 112] := by rw [ByteArray.toList_eq]
    rw [nNames3] at hi hj
    rcases i with _ | _ | _ | i <;> rcases j with _ | _ | _ | j <;> first | rfl | (exfalso; omega) | (exfalso; simp [nNames, e0, e1, e2] at h)
  have hf := fidx_nat (f := fun x : ByteArray => x.toList == a.toList) (xs := nNames)
  have ha := fidx_any (fun x : ByteArray => x.toList == a.toList) nNames
  unfold nSiteNo
  rw [Bool.eq_iff_iff, beq_iff_eq, beq_iff_eq]
  constructor
  · intro h
    have h2 : nNames.findIdx? (fun x : ByteArray => x.toList == a.toList) = some k := by
      unfold fidx at h
      cases e : nNames.findIdx? (fun x : ByteArray => x.toList == a.toList) with
      | none => rw [e] at h; simp only at h; omega
      | some i => rw [e] at h; simp only at h; congr 1; omega
    have := (List.findIdx?_eq_some_iff_getElem.1 h2).2.1
    exact (eq_of_beq this).symm
  · intro h
    have hex : nNames.any (fun x : ByteArray => x.toList == a.toList) = true := List.any_eq_true.2 ⟨nNames[k], List.getElem_mem hk, by rw [h]; exact beq_self_eq_true _⟩
    rw [hex] at ha
    obtain ⟨j, e, hj⟩ := hf (by have := of_decide_eq_true ha; omega)
    rw [e]
    have h2 : nNames.findIdx? (fun x : ByteArray => x.toList == a.toList) = some j := by
      unfold fidx at e
      cases e2 : nNames.findIdx? (fun x : ByteArray => x.toList == a.toList) with
      | none => rw [e2] at e; simp only at e; omega
      | some i => rw [e2] at e; simp only at e; congr 1; omega
    have := (List.findIdx?_eq_some_iff_getElem.1 h2).2.1
    rw [d j k hj hk (by rw [eq_of_beq this, h])]
def nPageAt (w : M.World) (k : Nat) : Bool := (w.Pages[k]?).any fun x => nPage x && (decide (x.Id < w.NextPage) && ((decide (k = 0) || (w.Pages[k - 1]?).any fun y => decide (y.Id < x.Id)) && decide (0 ≤ fidx (nAt x.Site x.Top) w.Storage.Buckets)))
def nSiteAt (w : M.World) (k : Nat) : Bool := (w.Sites[k]?).any fun x => nSite x && ((nNames[k]?).any (fun nm => x.Name.toList == nm.toList) && (w.Servers[k]?).any nServer)
def nWorld (w : M.World) : Bool := decide (w.Sites.length = 3) && (decide (w.Servers.length = 3) && (decide (w.Pages.length ≤ 6) && ((List.range 3).all (nSiteAt w) && ((List.range w.Pages.length).all (nPageAt w) && (inR w.Now 0 999999990000 && (inR w.Device 1 1000000 && (nStorage w.Storage && (inR w.NextPage 1 1000000000000 && nLocks w.Locks))))))))
theorem world_sto {w : M.World} (hz : M.World.sz w ≤ 1048576) : M.Storage.sz w.Storage ≤ 1048576 := by
  simp only [M.World.sz] at hz
  omega
theorem pages_spec {w : M.World} (hw : w.ok) {E : Option Bool} (hE : ∀ n, m_spec_IsWorld_L2 w (n + 1) (w.Pages.length : Int) = E) : m_spec_IsWorld_L2 w fuel 0 = if (List.range w.Pages.length).all (nPageAt w) = true then E else some false := by
  have hm := le_max hw.Pages.1
  refine chkAll (L := m_spec_IsWorld_L2 w) (g := nPageAt w) (F := some false) (E := E) hw.Pages.1 (fun n k hk => ?_) hE
  have hf := hw.Pages.2 _ (List.getElem_mem hk)
  simp only [m_spec_IsWorld_L2]
  rw [if_pos (lt_nat hk), idx_nat hk, Option.bind_some, wrapn (by omega), p_spec_IsPage hf, Option.bind_some, p_spec_FindBucket hw.Storage, Option.bind_some]
  unfold nPageAt
  rw [List.getElem?_eq_getElem hk, Option.any_some]
  generalize m_spec_IsWorld_L2 w n ((k + 1 : Nat) : Int) = Z
  have e1 : decide (w.Pages[k].Id ≥ w.NextPage) = !decide (w.Pages[k].Id < w.NextPage) := by rw [Bool.eq_iff_iff]; simp
  have e2 : decide (fidx (nAt w.Pages[k].Site w.Pages[k].Top) w.Storage.Buckets < 0) = !decide (0 ≤ fidx (nAt w.Pages[k].Site w.Pages[k].Top) w.Storage.Buckets) := by rw [Bool.eq_iff_iff]; simp
  rw [e1]
  simp only [e2]
  by_cases h0 : k = 0
  · subst h0
    cases nPage w.Pages[0] <;> cases decide (w.Pages[0].Id < w.NextPage) <;> cases decide (0 ≤ fidx (nAt w.Pages[0].Site w.Pages[0].Top) w.Storage.Buckets) <;> simp
  · have e : IntKind.i64.wrap ((k : Int) - 1) = ((k - 1 : Nat) : Int) := by rw [wrap_ok (by omega) (by omega)]; omega
    have hk1 : k - 1 < w.Pages.length := by omega
    have e3 : decide (w.Pages[k - 1].Id ≥ w.Pages[k].Id) = !decide (w.Pages[k - 1].Id < w.Pages[k].Id) := by rw [Bool.eq_iff_iff]; simp
    rw [if_pos (c := (decide ((k : Int) > 0)) = true) (by simp; omega), e, idx_nat hk1, Option.bind_some, List.getElem?_eq_getElem hk1, e3]
    simp only [Option.any_some, h0, decide_false, Bool.false_or]
    cases nPage w.Pages[k] <;> cases decide (w.Pages[k].Id < w.NextPage) <;> cases decide (w.Pages[k - 1].Id < w.Pages[k].Id) <;> cases decide (0 ≤ fidx (nAt w.Pages[k].Site w.Pages[k].Top) w.Storage.Buckets) <;> simp
theorem pages_impl {w : M.World} (hw : w.ok) {E : Option Bool} (hE : ∀ n, m_impl_IsWorld_L1 w (n + 1) (w.Pages.length : Int) = E) : m_impl_IsWorld_L1 w fuel 0 = if (List.range w.Pages.length).all (nPageAt w) = true then E else some false := by
  have hm := le_max hw.Pages.1
  refine chkAll (L := m_impl_IsWorld_L1 w) (g := nPageAt w) (F := some false) (E := E) hw.Pages.1 (fun n k hk => ?_) hE
  have hf := hw.Pages.2 _ (List.getElem_mem hk)
  simp only [m_impl_IsWorld_L1]
  rw [if_pos (lt_nat hk), idx_nat hk, Option.bind_some, wrapn (by omega), p_impl_IsPage hf, Option.bind_some, p_impl_FindBucket hw.Storage, Option.bind_some]
  unfold nPageAt
  rw [List.getElem?_eq_getElem hk, Option.any_some]
  generalize m_impl_IsWorld_L1 w n ((k + 1 : Nat) : Int) = Z
  have e1 : decide (w.Pages[k].Id ≥ w.NextPage) = !decide (w.Pages[k].Id < w.NextPage) := by rw [Bool.eq_iff_iff]; simp
  have e2 : decide (fidx (nAt w.Pages[k].Site w.Pages[k].Top) w.Storage.Buckets < 0) = !decide (0 ≤ fidx (nAt w.Pages[k].Site w.Pages[k].Top) w.Storage.Buckets) := by rw [Bool.eq_iff_iff]; simp
  rw [e1]
  simp only [e2]
  by_cases h0 : k = 0
  · subst h0
    cases nPage w.Pages[0] <;> cases decide (w.Pages[0].Id < w.NextPage) <;> cases decide (0 ≤ fidx (nAt w.Pages[0].Site w.Pages[0].Top) w.Storage.Buckets) <;> simp
  · have e : IntKind.i64.wrap ((k : Int) - 1) = ((k - 1 : Nat) : Int) := by rw [wrap_ok (by omega) (by omega)]; omega
    have hk1 : k - 1 < w.Pages.length := by omega
    have e3 : decide (w.Pages[k].Id ≤ w.Pages[k - 1].Id) = !decide (w.Pages[k - 1].Id < w.Pages[k].Id) := by rw [Bool.eq_iff_iff]; simp
    rw [if_pos (c := (decide ((k : Int) > 0)) = true) (by simp; omega), e, idx_nat hk1, Option.bind_some, List.getElem?_eq_getElem hk1, e3]
    simp only [Option.any_some, h0, decide_false, Bool.false_or]
    cases nPage w.Pages[k] <;> cases decide (w.Pages[k].Id < w.NextPage) <;> cases decide (w.Pages[k - 1].Id < w.Pages[k].Id) <;> cases decide (0 ≤ fidx (nAt w.Pages[k].Site w.Pages[k].Top) w.Storage.Buckets) <;> simp
theorem p_spec_IsWorld {w : M.World} (hw : w.ok) (hz : M.World.sz w ≤ 1048576) : m_spec_IsWorld w = some (nWorld w) := by
  unfold m_spec_IsWorld nWorld
  by_cases h1 : w.Sites.length = 3
  · by_cases h2 : w.Servers.length = 3
    · have e3 : decide ((w.Pages.length : Int) > 6) = !decide (w.Pages.length ≤ 6) := by rw [Bool.eq_iff_iff]; simp; omega
      rw [if_neg (by rw [h1]; simp), if_neg (by rw [h2]; simp), e3, decide_eq_true h1, decide_eq_true h2]
      rw [chkAll (N := 3) (L := m_spec_IsWorld_L1 w) (g := nSiteAt w) (F := some false) (E := m_spec_IsWorld_L2 w fuel 0) (by unfold maxLen; omega) (fun n k hk => ?_) (fun n => ?_),
        pages_spec hw (E := some (inR w.Now 0 999999990000 && (inR w.Device 1 1000000 && (nStorage w.Storage && (inR w.NextPage 1 1000000000000 && nLocks w.Locks))))) (fun n => ?_)]
      · cases decide (w.Pages.length ≤ 6) <;> cases (List.range 3).all (nSiteAt w) <;> cases (List.range w.Pages.length).all (nPageAt w) <;> simp
      · simp only [m_spec_IsWorld_L2]
        rw [if_neg (by rw [nlt_nat]; simp)]
        simp only [p_spec_l1In, p_spec_IsStorage hw.Storage (world_sto hz), p_spec_IsLockTable hw.Locks, Option.bind_some, ite_and]
      · have hk1 : k < w.Sites.length := by omega
        have hk2 : k < w.Servers.length := by omega
        have hk3 : k < nNames.length := by rw [nNames3]; exact hk
        have hn : m_spec_l29Names = some nNames := rfl
        simp only [m_spec_IsWorld_L1, hn, Option.bind_some]
        rw [if_pos (by simp; omega), idx_nat hk1, Option.bind_some, wrapn (by omega), p_spec_IsSite (hw.Sites.2 _ (List.getElem_mem hk1)), Option.bind_some, idx_nat hk3, Option.bind_some, idx_nat hk2, Option.bind_some, p_spec_IsServer (hw.Servers.2 _ (List.getElem_mem hk2)), Option.bind_some]
        unfold nSiteAt
        rw [List.getElem?_eq_getElem hk1, List.getElem?_eq_getElem hk2, List.getElem?_eq_getElem hk3]
        simp only [Option.any_some]
        generalize m_spec_IsWorld_L1 w n ((k + 1 : Nat) : Int) = Z
        have gen : ∀ (a b c : Bool), (if (!a) = true then some false else if (!b) = true then some false else if (!c) = true then some false else Z) = if (a && (b && c)) = true then Z else some false := by
          intro a b c; cases a <;> cases b <;> cases c <;> rfl
        exact gen _ _ _
      · simp only [m_spec_IsWorld_L1]
        rw [if_neg (by simp)]
    · rw [if_neg (by rw [h1]; simp), if_pos (by simp; omega), decide_eq_false h2]
      simp
  · rw [if_pos (by simp; omega), decide_eq_false h1]
    simp
theorem p_impl_IsWorld {w : M.World} (hw : w.ok) (hz : M.World.sz w ≤ 1048576) : m_impl_IsWorld w = some (nWorld w) := by
  unfold m_impl_IsWorld nWorld
  have e3 : decide ((w.Pages.length : Int) > 6) = !decide (w.Pages.length ≤ 6) := by rw [Bool.eq_iff_iff]; simp; omega
  have e1 : ((w.Sites.length : Int) != 3) = !decide (w.Sites.length = 3) := by rw [Bool.eq_iff_iff]; simp; omega
  have e2 : ((w.Servers.length : Int) != 3) = !decide (w.Servers.length = 3) := by rw [Bool.eq_iff_iff]; simp; omega
  simp only [p_impl_InRange, p_impl_IsStorage hw.Storage (world_sto hz), p_impl_IsLockTable hw.Locks, Option.bind_some, e1, e2, e3]
  by_cases h1 : w.Sites.length = 3
  · by_cases h2 : w.Servers.length = 3
    · rw [pages_impl hw (E := m_impl_IsWorld_L2 w fuel 0) (fun n => by
          simp only [m_impl_IsWorld_L1]
          rw [if_neg (by rw [nlt_nat]; simp)]),
        chkAll (N := 3) (L := m_impl_IsWorld_L2 w) (g := nSiteAt w) (F := some false) (E := some true) (by unfold maxLen; omega) (fun n k hk => ?_) (fun n => ?_)]
      · rw [decide_eq_true h1, decide_eq_true h2]
        cases inR w.Now 0 999999990000 <;> cases inR w.Device 1 1000000 <;> cases nStorage w.Storage <;> cases decide (w.Pages.length ≤ 6) <;> cases inR w.NextPage 1 1000000000000 <;> cases nLocks w.Locks <;> cases (List.range 3).all (nSiteAt w) <;> cases (List.range w.Pages.length).all (nPageAt w) <;> rfl
      · have hk1 : k < w.Sites.length := by omega
        have hk2 : k < w.Servers.length := by omega
        have hk3 : k < nNames.length := by rw [nNames3]; exact hk
        simp only [m_impl_IsWorld_L2]
        rw [if_pos (lt_nat hk1), idx_nat hk1, Option.bind_some, wrapn (by omega), p_impl_IsSite (hw.Sites.2 _ (List.getElem_mem hk1)), Option.bind_some, p_impl_SiteNumber, Option.bind_some, idx_nat hk2, Option.bind_some, p_impl_IsServer (hw.Servers.2 _ (List.getElem_mem hk2)), Option.bind_some, flip_bne, siteNo_at hk3]
        unfold nSiteAt
        rw [List.getElem?_eq_getElem hk1, List.getElem?_eq_getElem hk2, List.getElem?_eq_getElem hk3]
        simp only [Option.any_some]
        generalize m_impl_IsWorld_L2 w n ((k + 1 : Nat) : Int) = Z
        have gen : ∀ (a b c : Bool), (if (!a) = true then some false else if b = true then (if (!c) = true then some false else Z) else some false) = if (a && (b && c)) = true then Z else some false := by
          intro a b c; cases a <;> cases b <;> cases c <;> rfl
        exact gen _ _ _
      · simp only [m_impl_IsWorld_L2]
        rw [if_neg (by rw [h1]; simp)]
    · rw [decide_eq_true h1, decide_eq_false h2]
      cases inR w.Now 0 999999990000 <;> cases inR w.Device 1 1000000 <;> cases nStorage w.Storage <;> cases decide (w.Pages.length ≤ 6) <;> cases inR w.NextPage 1 1000000000000 <;> cases nLocks w.Locks <;> rfl
  · rw [decide_eq_false h1]
    cases inR w.Now 0 999999990000 <;> cases inR w.Device 1 1000000 <;> cases nStorage w.Storage <;> cases decide (w.Pages.length ≤ 6) <;> cases inR w.NextPage 1 1000000000000 <;> cases nLocks w.Locks <;> rfl

end Go.Proofs.YtcpahpbjjnekkaaGreat.gen
