/-
  Helper text: plain laws of the functions. No conditions beyond those of each law.
-/
import Derived.Test.YtfcfdnmhpdgjfaaCacheCompletePz
namespace Go.Proofs.Ytfcfdnmhpdgjfaa.gen
open Go Go.Sh
set_option linter.unusedVariables false
set_option linter.unusedSimpArgs false
def nEqbyte (x y : Int) : Bool := x == y
theorem p_Equal_byte {xs ys : List Int} (hx : xs.length ≤ maxLen) : m_slices_Equal_byte xs ys = some (eqL nEqbyte xs ys) := by
  have hm := le_max hx
  unfold m_slices_Equal_byte
  rw [eqAll (f := nEqbyte) hx (E := some true) (fun n k hk hk' => by
    simp only [m_slices_Equal_byte_L1]
    rw [if_pos (lt_nat hk), idx_nat hk, idx_nat hk', Option.bind_some, Option.bind_some, wrapn (by omega)]
    first | rw [flip_not]; rfl | rw [flip_bne]; rfl) (fun n => by
    simp only [m_slices_Equal_byte_L1]
    rw [if_neg (by rw [nlt_nat]; simp)]), ite_and, Bool.and_true]
theorem p_spec_EqualBytes {a b : List Int} (ha : okB a) (hb : okB b) : m_spec_EqualBytes a b = some (eqL nEqbyte a b) := by
  unfold m_spec_EqualBytes
  rw [toStr_ok ha.2, toStr_ok hb.2, Option.bind_some, Option.bind_some, bytesStr_eq ha.2 hb.2]
  rfl
theorem p_impl_EqualBytes {a b : List Int} (ha : okB a) : m_impl_EqualBytes a b = some (eqL nEqbyte a b) := by
  unfold m_impl_EqualBytes
  rw [p_Equal_byte ha.1, Option.bind_some]
theorem p_IndexFunc_Cache {p : M.Cache → Option Bool} {f : M.Cache → Bool} {xs : List M.Cache} (hx : xs.length ≤ maxLen) (hp : ∀ x ∈ xs, p x = some (f x)) : m_slices_IndexFunc_Cache xs p = some (fidx f xs) := by
  have hm := le_max hx
  unfold m_slices_IndexFunc_Cache
  rw [findAll (L := m_slices_IndexFunc_Cache_L1 xs p) (f := f) (A := fun i => some (i : Int)) (E := some (-1)) hx (fun n k hk => by
    simp only [m_slices_IndexFunc_Cache_L1]
    rw [if_pos (lt_nat hk), idx_nat hk, Option.bind_some, hp _ (List.getElem_mem hk), Option.bind_some, wrapn (by omega)]) (fun n => by
    simp only [m_slices_IndexFunc_Cache_L1]
    rw [if_neg (by rw [nlt_nat]; simp)]), fidx_some]
theorem p_IndexFunc_Cached {p : M.Cached → Option Bool} {f : M.Cached → Bool} {xs : List M.Cached} (hx : xs.length ≤ maxLen) (hp : ∀ x ∈ xs, p x = some (f x)) : m_slices_IndexFunc_Cached xs p = some (fidx f xs) := by
  have hm := le_max hx
  unfold m_slices_IndexFunc_Cached
  rw [findAll (L := m_slices_IndexFunc_Cached_L1 xs p) (f := f) (A := fun i => some (i : Int)) (E := some (-1)) hx (fun n k hk => by
    simp only [m_slices_IndexFunc_Cached_L1]
    rw [if_pos (lt_nat hk), idx_nat hk, Option.bind_some, hp _ (List.getElem_mem hk), Option.bind_some, wrapn (by omega)]) (fun n => by
    simp only [m_slices_IndexFunc_Cached_L1]
    rw [if_neg (by rw [nlt_nat]; simp)]), fidx_some]
theorem p_spec_FindCache {s : M.CacheSet} {v : Int} (hs : s.ok) : m_spec_FindCache s v = some (fidx (fun c : M.Cache => c.Version == v) s.Caches) := by
  have hm := le_max hs.Caches.1
  unfold m_spec_FindCache
  rw [findAll (L := m_spec_FindCache_L1 s v) (f := fun c : M.Cache => c.Version == v) (A := fun i => some (i : Int)) (E := some (-1)) hs.Caches.1 (fun m k hk => ?_) (fun m => ?_), fidx_some]
  · simp only [m_spec_FindCache_L1]
    rw [if_pos (lt_nat hk), idx_nat hk, Option.bind_some, wrapn (by omega)]
  · simp only [m_spec_FindCache_L1]
    rw [if_neg (by rw [nlt_nat]; simp)]
theorem p_impl_FindCache {s : M.CacheSet} {v : Int} (hs : s.ok) : m_impl_FindCache s v = some (fidx (fun c : M.Cache => c.Version == v) s.Caches) := by
  unfold m_impl_FindCache
  rw [p_IndexFunc_Cache (f := fun c : M.Cache => c.Version == v) hs.Caches.1 (fun x _ => by simp only [m_impl_FindCache_1]), Option.bind_some]
def nEntry (a b : ByteArray) (x : M.Cached) : Bool := (x.Site.toList == a.toList) && (x.Path.toList == b.toList)
theorem p_spec_l17Find {c : M.Cache} {a b : ByteArray} (hc : c.ok) : m_spec_l17Find c a b = some (fidx (nEntry a b) c.Entries) := by
  have hm := le_max hc.Entries.1
  unfold m_spec_l17Find
  rw [findAll (L := m_spec_l17Find_L1 c a b) (f := nEntry a b) (A := fun i => some (i : Int)) (E := some (-1)) hc.Entries.1 (fun m k hk => ?_) (fun m => ?_), fidx_some]
  · simp only [m_spec_l17Find_L1]
    rw [if_pos (lt_nat hk), idx_nat hk, Option.bind_some, wrapn (by omega), ite2]
    rfl
  · simp only [m_spec_l17Find_L1]
    rw [if_neg (by rw [nlt_nat]; simp)]
theorem p_impl_entryAt {c : M.Cache} {a b : ByteArray} (hc : c.ok) : m_impl_entryAt c a b = some (fidx (nEntry a b) c.Entries) := by
  unfold m_impl_entryAt
  rw [p_IndexFunc_Cached (f := nEntry a b) hc.Entries.1 (fun x _ => by simp only [m_impl_entryAt_1, ite_and]; rfl), Option.bind_some]
theorem p_MatchCache {s : M.CacheSet} {v : Int} {a b : ByteArray} (hs : s.ok) (hz : s.sz ≤ 1048576) : ∃ r, m_spec_MatchCache s v a b = some r ∧ m_impl_MatchCache s v a b = some r ∧ okB r.1.Body := by
  unfold m_spec_MatchCache m_impl_MatchCache m_spec_ErrorResponse m_impl_ErrorResponse
  rw [p_spec_FindCache hs, p_impl_FindCache hs]
  simp only [Option.bind_some]
  have hnil : okB ([] : List Int) := ⟨by simp [maxLen], by simp⟩
  by_cases h : fidx (fun c : M.Cache => c.Version == v) s.Caches < 0
  · simp only [h, decide_true, if_true]
    exact ⟨_, rfl, rfl, hnil⟩
  · obtain ⟨k, e, hk⟩ := fidx_nat h
    simp only [h, decide_false, Bool.false_eq_true, if_false]
    rw [e, idx_nat hk]
    have hc := hs.Caches.2 _ (List.getElem_mem hk)
    simp only [Option.bind_some]
    rw [p_spec_l17Find hc, p_impl_entryAt hc]
    simp only [Option.bind_some]
    by_cases h2 : fidx (nEntry a b) s.Caches[k].Entries < 0
    · simp only [h2, decide_true, if_true]
      exact ⟨_, rfl, rfl, hnil⟩
    · obtain ⟨j, e2, hj⟩ := fidx_nat h2
      simp only [h2, decide_false, Bool.false_eq_true, if_false]
      rw [e2, idx_nat hj]
      have hx := hc.Entries.2 _ (List.getElem_mem hj)
      have z1 := szSum_le (f := M.Cache.sz) (List.getElem_mem hk)
      have z2 := szSum_le (f := M.Cached.sz) (List.getElem_mem hj)
      unfold M.CacheSet.sz at hz
      have q1 : M.Cache.sz s.Caches[k] = s.Caches[k].Entries.length + szSum M.Cached.sz s.Caches[k].Entries := rfl
      have q2 : M.Cached.sz s.Caches[k].Entries[j] = s.Caches[k].Entries[j].Site.size + (s.Caches[k].Entries[j].Path.size + s.Caches[k].Entries[j].Response.Body.length) := rfl
      have hb : (s.Caches[k].Entries[j].Response.Body).length ≤ 1048576 := by omega
      simp only [Option.bind_some, m_spec_l15Copy, m_impl_copyResponse, m_impl_copyBytes]
      rw [app_ok (by simp; omega)]
      exact ⟨_, rfl, rfl, hx.Response.Body⟩

theorem p_spec_BytesToInts {l : List Int} (hl : l.length ≤ 1048576) : m_spec_BytesToInts l = some ([(List.length l : Int)] ++ l.map IntKind.i64.wrap) := by
  unfold m_spec_BytesToInts
  have := mapLoop (b := 8) (xs := l) (f := IntKind.i64.wrap) (L := m_spec_BytesToInts_L1 l) (fun n k hk r => ?_) (fun n r => ?_) fuel 0 ([(List.length l : Int)]) (by unfold fuel; omega) (by omega) (by simp; omega)
  · simpa using this
  · simp only [m_spec_BytesToInts_L1]
    rw [if_pos (lt_nat hk), idx_nat hk, Option.bind_some, wrapn (by omega)]
  · simp only [m_spec_BytesToInts_L1]
    rw [if_neg (by rw [nlt_nat]; simp)]
theorem p_impl_BytesToInts {l : List Int} (hl : l.length ≤ 1048576) : m_impl_BytesToInts l = some ([(List.length l : Int)] ++ l.map IntKind.i64.wrap) := by
  unfold m_impl_BytesToInts
  have := mapLoop (b := 8) (xs := l) (f := IntKind.i64.wrap) (L := m_impl_BytesToInts_L1 l) (fun n k hk r => ?_) (fun n r => ?_) fuel 0 ([(List.length l : Int)]) (by unfold fuel; omega) (by omega) (by simp; omega)
  · simpa using this
  · simp only [m_impl_BytesToInts_L1]
    rw [if_pos (lt_nat hk), idx_nat hk, Option.bind_some, wrapn (by omega)]
  · simp only [m_impl_BytesToInts_L1]
    rw [if_neg (by rw [nlt_nat]; simp)]
theorem p_spec_Mod (x : Int) : m_spec_Mod x 2147483647 = some (nMod x) := by
  have e : m_spec_l1In 2147483647 1 1000000000000 = some true := by decide
  unfold m_spec_Mod
  rw [e, Option.bind_some, if_neg (by simp), if_neg (by simp), spec_mod]
theorem p_impl_Mod (x : Int) : m_impl_Mod x 2147483647 = some (nMod x) := by
  have e : m_impl_InRange 2147483647 1 1000000000000 = some true := by decide
  unfold m_impl_Mod
  rw [e, Option.bind_some, if_neg (by simp), if_neg (by simp), impl_mod]
theorem p_spec_Hash {l : List Int} (hl : l.length ≤ maxLen) : m_spec_Hash l = some (nHash l) := by
  have hm := le_max hl
  unfold m_spec_Hash nHash
  refine sumAll (L := m_spec_Hash_L1 l) (E := some) hl (fun n v k hk => ?_) (fun n v => ?_) 11
  · simp only [m_spec_Hash_L1]
    rw [if_pos (lt_nat hk), idx_nat hk, Option.bind_some, p_spec_Mod, Option.bind_some, wrapn (by omega)]
    rfl
  · simp only [m_spec_Hash_L1]
    rw [if_neg (by rw [nlt_nat]; simp)]
theorem p_spec_KeyedHash {k : Int} {l : List Int} (hl : l.length ≤ 2000000) : m_spec_KeyedHash k l = some (nHash (([k] ++ l) ++ [k])) := by
  unfold m_spec_KeyedHash
  rw [app_ok (by simp; omega), Option.bind_some, app_ok (by simp; omega), Option.bind_some, p_spec_Hash (by simp [maxLen]; omega), Option.bind_some]
theorem p_impl_Hash {l : List Int} (hl : l.length ≤ maxLen) : m_impl_Hash l = some (nHash l) := by
  have hm := le_max hl
  unfold m_impl_Hash nHash
  refine sumAll (L := m_impl_Hash_L1 l) (E := some) hl (fun n v k hk => ?_) (fun n v => ?_) 11
  · simp only [m_impl_Hash_L1]
    rw [if_pos (lt_nat hk), idx_nat hk, Option.bind_some, p_impl_Mod, Option.bind_some, wrapn (by omega)]
    rfl
  · simp only [m_impl_Hash_L1]
    rw [if_neg (by rw [nlt_nat]; simp)]
theorem p_impl_KeyedHash {k : Int} {l : List Int} (hl : l.length ≤ 2000000) : m_impl_KeyedHash k l = some (nHash (([k] ++ l) ++ [k])) := by
  unfold m_impl_KeyedHash
  rw [app_ok (by simp; omega), Option.bind_some, app_ok (by simp; omega), Option.bind_some, p_impl_Hash (by simp [maxLen]; omega), Option.bind_some]
def nDerive (k : Int) (s : ByteArray) : Int := if nHash (([k] ++ ([(List.length (strBytes s) : Int)] ++ (strBytes s).map IntKind.i64.wrap)) ++ [k]) = 0 then 1 else nHash (([k] ++ ([(List.length (strBytes s) : Int)] ++ (strBytes s).map IntKind.i64.wrap)) ++ [k])
theorem p_spec_Derive {k : Int} {s : ByteArray} (hs : s.size ≤ 1048576) : m_spec_DeriveFromString k s = some (nDerive k s) := by
  have hl := strBytes_len s
  unfold m_spec_DeriveFromString m_spec_Max nDerive
  rw [p_spec_BytesToInts (by omega), Option.bind_some, p_spec_KeyedHash (by simp; omega), Option.bind_some]
  have := nHash_b (([k] ++ ([(List.length (strBytes s) : Int)] ++ (strBytes s).map IntKind.i64.wrap)) ++ [k])
  generalize nHash (([k] ++ ([(List.length (strBytes s) : Int)] ++ (strBytes s).map IntKind.i64.wrap)) ++ [k]) = h at *
  by_cases h0 : h = 0
  · rw [if_neg (by simp; omega), if_pos h0]; rfl
  · rw [if_neg h0]
    by_cases h1 : h = 1
    · rw [if_neg (by simp; omega), h1]; rfl
    · rw [if_pos (by simp; omega)]; rfl
theorem p_impl_Derive {k : Int} {s : ByteArray} (hs : s.size ≤ 1048576) : m_impl_DeriveFromString k s = some (nDerive k s) := by
  have hl := strBytes_len s
  unfold m_impl_DeriveFromString nDerive
  rw [p_impl_BytesToInts (by omega), Option.bind_some, p_impl_KeyedHash (by simp; omega), Option.bind_some]
  generalize nHash (([k] ++ ([(List.length (strBytes s) : Int)] ++ (strBytes s).map IntKind.i64.wrap)) ++ [k]) = h
  by_cases h0 : h = 0
  · rw [if_pos (by simp [h0]), if_pos h0]
  · rw [if_neg (by simp [h0]), if_neg h0]
theorem body_same {x : Int} (h0 : 0 ≤ x) (h1 : x < 2147483647) : ∀ (n : Nat) (v : Int) (r : List Int), m_spec_BodyOf_L1 x n v r = m_impl_BodyOf_L1 x n v r
  | 0, _, _ => rfl
  | n + 1, v, r => by
    simp only [m_spec_BodyOf_L1, m_impl_BodyOf_L1, byte_eq h0 h1, body_same h0 h1 n]
theorem body_ok (x : Int) : ∃ l, m_impl_BodyOf_L1 x fuel 5 ([] : List Int) = some l ∧ okB l := by
  have st : ∀ n (v : Nat) r, r.length ≤ 7 → (∀ y ∈ r, 0 ≤ y ∧ y ≤ 255) → v ≤ 5 → ∃ y : Int, (0 ≤ y ∧ y ≤ 255) ∧ m_impl_BodyOf_L1 x (n + 1) (v : Int) r = m_impl_BodyOf_L1 x n ((v : Int) - 1) (r ++ [y]) := by
    intro n v r hr hy hv
    refine ⟨IntKind.u8.wrap (Int.fdiv x (2 ^ (min (IntKind.i64.wrap (8 * (v : Int))).toNat IntKind.i64.bits))), by rw [wrap_u8]; omega, ?_⟩
    simp only [m_impl_BodyOf_L1]
    rw [if_pos (by simp), if_pos (by rw [wrap_ok (by omega) (by omega)]; simp; omega), app_ok (by simp; omega), Option.bind_some, wrap_ok (n := (v : Int) - 1) (by omega) (by omega)]
  have e7 : ∀ n r, m_impl_BodyOf_L1 x (n + 1) (-1) r = some r := by
    intro n r
    simp only [m_impl_BodyOf_L1]
    rw [if_neg (by decide)]
  rw [fuel7]
  obtain ⟨x1, b1, e1⟩ := st (18446744073709551609 + 6) 5 [] (by simp) (by simp) (by simp)
  obtain ⟨x2, b2, e2⟩ := st (18446744073709551609 + 5) 4 ([] ++ [x1]) (by simp) (by simpa using b1) (by simp)
  obtain ⟨x3, b3, e3⟩ := st (18446744073709551609 + 4) 3 ([] ++ [x1] ++ [x2]) (by simp) (by simpa using ⟨b1, b2⟩) (by simp)
  obtain ⟨x4, b4, e4⟩ := st (18446744073709551609 + 3) 2 ([] ++ [x1] ++ [x2] ++ [x3]) (by simp) (by simpa using ⟨b1, b2, b3⟩) (by simp)
  obtain ⟨x5, b5, e5⟩ := st (18446744073709551609 + 2) 1 ([] ++ [x1] ++ [x2] ++ [x3] ++ [x4]) (by simp) (by simpa using ⟨b1, b2, b3, b4⟩) (by simp)
  obtain ⟨x6, b6, e6⟩ := st (18446744073709551609 + 1) 0 ([] ++ [x1] ++ [x2] ++ [x3] ++ [x4] ++ [x5]) (by simp) (by simpa using ⟨b1, b2, b3, b4, b5⟩) (by simp)
  exact ⟨_, (e1.trans (e2.trans (e3.trans (e4.trans (e5.trans (e6.trans (e7 _ _))))))), by simp [maxLen], by simpa using ⟨b1, b2, b3, b4, b5, b6⟩⟩
theorem p_BodyOf {t : M.Site} {f : ByteArray} {v : Int} (h1 : t.Name.size ≤ 1048576) (h2 : f.size ≤ 1048576) : ∃ l, m_spec_BodyOf t f v = some l ∧ m_impl_BodyOf t f v = some l ∧ okB l := by
  unfold m_spec_BodyOf m_impl_BodyOf
  rw [p_spec_Derive h1, p_impl_Derive h1, Option.bind_some, Option.bind_some, p_spec_Derive h2, p_impl_Derive h2, Option.bind_some, Option.bind_some, p_spec_KeyedHash (by simp), p_impl_KeyedHash (by simp), Option.bind_some, Option.bind_some]
  have hb := nHash_b (([IntKind.i64.wrap (1 + v)] ++ [103, nDerive 107 t.Name, nDerive 109 f]) ++ [IntKind.i64.wrap (1 + v)])
  rw [body_same hb.1 hb.2]
  obtain ⟨l, e, hl⟩ := body_ok (nHash (([IntKind.i64.wrap (1 + v)] ++ [103, nDerive 107 t.Name, nDerive 109 f]) ++ [IntKind.i64.wrap (1 + v)]))
  exact ⟨l, e, e, hl⟩
def nFile (s : M.CacheSet) (t : M.Site) (v : Int) (f : ByteArray) : Bool :=
  match m_spec_MatchCache s v t.Name f, m_spec_BodyOf t f v with
  | some x, some b => x.2 && ((x.1.Status == 200) && ((x.1.Version == v) && eqL nEqbyte x.1.Body b))
  | _, _ => false
def nFileAt (s : M.CacheSet) (t : M.Site) (v : Int) (k : Nat) : Bool := (t.Files[k]?).any (nFile s t v)
def nComplete (s : M.CacheSet) (t : M.Site) (v : Int) : Bool := (List.range t.Files.length).all (nFileAt s t v) && decide (fidx (fun c : M.Cache => c.Version == v) s.Caches ≥ 0)
theorem p_spec_CacheComplete {s : M.CacheSet} {t : M.Site} {v : Int} (hs : s.ok) (ht : t.ok) (zs : s.sz ≤ 1048576) (zt : t.sz ≤ 1048576) : m_spec_CacheComplete s t v = some (nComplete s t v) := by
  have hm := le_max ht.Files.1
  unfold m_spec_CacheComplete nComplete
  rw [chkAll (L := m_spec_CacheComplete_L1 s t v) (g := nFileAt s t v) (F := some false) (E := some (decide (fidx (fun c : M.Cache => c.Version == v) s.Caches ≥ 0))) ht.Files.1 (fun n k hk => ?_) (fun n => ?_), ite_and]
  · simp only [m_spec_CacheComplete_L1]
    unfold M.Site.sz at zt
    have z1 := szSum_le (f := ByteArray.size) (List.getElem_mem hk)
    obtain ⟨x, e1, e2, hb⟩ := p_MatchCache (v := v) (a := t.Name) (b := t.Files[k]) hs zs
    obtain ⟨l, e3, e4, hl⟩ := p_BodyOf (t := t) (f := t.Files[k]) (v := v) (by omega) (by omega)
    have eg : nFileAt s t v k = (x.2 && ((x.1.Status == 200) && ((x.1.Version == v) && eqL nEqbyte x.1.Body l))) := by
      unfold nFileAt nFile
      rw [List.getElem?_eq_getElem hk, Option.any_some, e1, e3]
    rw [if_pos (lt_nat hk), idx_nat hk, Option.bind_some, e1, Option.bind_some, e3, Option.bind_some, p_spec_EqualBytes hb hl, Option.bind_some, wrapn (by omega), eg]
    generalize m_spec_CacheComplete_L1 s t v n ((k + 1 : Nat) : Int) = Z
    unfold bne
    generalize eqL nEqbyte x.1.Body l = d
    cases x.2 <;> cases (x.1.Status == 200) <;> cases (x.1.Version == v) <;> cases d <;> rfl
  · simp only [m_spec_CacheComplete_L1]
    rw [if_neg (by rw [nlt_nat]; simp), p_spec_FindCache hs, Option.bind_some]
theorem p_impl_CacheComplete {s : M.CacheSet} {t : M.Site} {v : Int} (hs : s.ok) (ht : t.ok) (zs : s.sz ≤ 1048576) (zt : t.sz ≤ 1048576) : m_impl_CacheComplete s t v = some (nComplete s t v) := by
  have hm := le_max ht.Files.1
  unfold m_impl_CacheComplete nComplete
  rw [chkAll (L := m_impl_CacheComplete_L1 s t v) (g := nFileAt s t v) (F := some false) (E := some (decide (fidx (fun c : M.Cache => c.Version == v) s.Caches ≥ 0))) ht.Files.1 (fun n k hk => ?_) (fun n => ?_), ite_and]
  · simp only [m_impl_CacheComplete_L1]
    unfold M.Site.sz at zt
    have z1 := szSum_le (f := ByteArray.size) (List.getElem_mem hk)
    obtain ⟨x, e1, e2, hb⟩ := p_MatchCache (v := v) (a := t.Name) (b := t.Files[k]) hs zs
    obtain ⟨l, e3, e4, hl⟩ := p_BodyOf (t := t) (f := t.Files[k]) (v := v) (by omega) (by omega)
    have eg : nFileAt s t v k = (x.2 && ((x.1.Status == 200) && ((x.1.Version == v) && eqL nEqbyte x.1.Body l))) := by
      unfold nFileAt nFile
      rw [List.getElem?_eq_getElem hk, Option.any_some, e1, e3]
    rw [if_pos (lt_nat hk), idx_nat hk, Option.bind_some, e2, Option.bind_some, e4, Option.bind_some, p_impl_EqualBytes hb, Option.bind_some, wrapn (by omega), eg]
    generalize m_impl_CacheComplete_L1 s t v n ((k + 1 : Nat) : Int) = Z
    unfold bne
    generalize eqL nEqbyte x.1.Body l = d
    cases x.2 <;> cases (x.1.Status == 200) <;> cases (x.1.Version == v) <;> cases d <;> rfl
  · simp only [m_impl_CacheComplete_L1]
    rw [if_neg (by rw [nlt_nat]; simp), p_impl_FindCache hs, Option.bind_some]

end Go.Proofs.Ytfcfdnmhpdgjfaa.gen
