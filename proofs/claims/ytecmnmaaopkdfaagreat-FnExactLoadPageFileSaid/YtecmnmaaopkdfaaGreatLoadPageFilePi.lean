/-
  Helper text. No conditions.
-/
import Derived.Test.YtecmnmaaopkdfaaGreatLoadPageFilePh
namespace Go.Proofs.YtecmnmaaopkdfaaGreat.gen
open Go Go.Sh
set_option linter.unusedVariables false
set_option linter.unusedSimpArgs false
def nPl (f : M.Item → Bool) (l : List M.Item) : Nat → Nat
  | 0 => 0
  | k + 1 => if (l[k]?).any f = true then nPl f l k else k + 1
theorem aKk (f : M.Item → Bool) (l : List M.Item) : ∀ k, nPl f l k ≤ k
  | 0 => by simp [nPl]
  | k + 1 => by
    unfold nPl
    split
    · exact Nat.le_succ_of_le (aKk f l k)
    · exact Nat.le_refl _
theorem aMY {α : Type} {l : List α} {i : Int} {x : α} (h : idx l i = some x) : x ∈ l := List.mem_of_getElem? (aT h).2.1
theorem aKb {α : Type} {l : List α} {k : Nat} (h : k ≤ l.length) : aIl l (k : Int) = some (l.take k) := by
  unfold aIl
  rw [if_pos ⟨by omega, by simpa using h⟩, Int.toNat_natCast]
def aNZ (a : ByteArray) (out : List M.Item) (x : M.Item) : List M.Item :=
  if (pC x.aU a).2 = true then out.take (nPl (aD9 a x) out out.length) ++ (x :: out.drop (nPl (aD9 a x) out out.length)) else out
def aFu (s : M.aG) (a : ByteArray) : List M.Item := s.Items.foldl (aNZ a) []
theorem aKl (a : ByteArray) (out : List M.Item) (x : M.Item) : (aNZ a out x).length ≤ out.length + 1 := by
  unfold aNZ
  have := aKk (aD9 a x) out out.length
  split
  · simp only [List.length_append, List.length_take, List.length_cons, List.length_drop]; omega
  · omega
theorem aKz {a : ByteArray} {out : List M.Item} {x y : M.Item} (h : y ∈ aNZ a out x) : y = x ∨ y ∈ out := by
  unfold aNZ at h
  split at h
  · rcases List.mem_append.1 h with h | h
    · exact .inr (List.mem_of_mem_take h)
    · rcases List.mem_cons.1 h with h | h
      · exact .inl h
      · exact .inr (List.mem_of_mem_drop h)
  · exact .inr h
theorem aL5 {a : ByteArray} {l : List M.Item} {x : M.Item} {K : Int → Option (List M.Item)} (hl : l.length ≤ 1048576) (hx : x.ok) (ho : ∀ y ∈ l, M.Item.ok y) :
    ∀ (n k : Nat), k < n → k ≤ l.length → gM a l x K n (k : Int) = K ((nPl (aD9 a x) l k : Nat) : Int)
  | 0, k, h, _ => by omega
  | n + 1, 0, h, _ => by
    simp only [gM, nPl]
    rw [if_neg (by simp)]
  | n + 1, k + 1, h, hk => by
    have hk' : k < l.length := by omega
    have e : IntKind.i64.wrap (((k + 1 : Nat) : Int) - 1) = (k : Int) := by rw [eS (by omega) (by omega)]; omega
    simp only [gM]
    rw [if_pos (by simp), e, aN hk', Option.bind_some, aIx hx (ho _ (List.getElem_mem hk')), Option.bind_some, nPl, List.getElem?_eq_getElem hk', Option.any_some]
    cases hc : aD9 a x l[k] with
    | true => rw [if_pos rfl, if_pos rfl]; exact aL5 hl hx ho n k (by omega) (by omega)
    | false => rw [if_neg (by simp), if_neg (by simp)]
theorem aMi {a : ByteArray} {l : List M.Item} {x : M.Item} {K : Int → Option (List M.Item)} (hl : l.length ≤ 1048576) (hx : x.ok) (ho : ∀ y ∈ l, M.Item.ok y) :
    ∀ (n k : Nat), k < n → k ≤ l.length → gN a l x K n (k : Int) = K ((nPl (aD9 a x) l k : Nat) : Int)
  | 0, k, h, _ => by omega
  | n + 1, 0, h, _ => by
    simp only [gN, nPl]
    rw [if_neg (by simp)]
  | n + 1, k + 1, h, hk => by
    have hk' : k < l.length := by omega
    have e : IntKind.i64.wrap (((k + 1 : Nat) : Int) - 1) = (k : Int) := by rw [eS (by omega) (by omega)]; omega
    simp only [gN]
    rw [if_pos (by simp), e, aN hk', Option.bind_some, aE9 hx (ho _ (List.getElem_mem hk')), Option.bind_some, nPl, List.getElem?_eq_getElem hk', Option.any_some]
    cases hc : aD9 a x l[k] with
    | true => rw [if_pos rfl, if_pos rfl]; exact aMi hl hx ho n k (by omega) (by omega)
    | false => rw [if_neg (by simp), if_neg (by simp)]
theorem aNx {s : M.aG} {a : ByteArray} (hs : s.ok) (hz : M.aG.sz s ≤ 1048576) : zD s a = some (aFu s a) ∧ (aFu s a).length ≤ s.Items.length ∧ ∀ y ∈ aFu s a, M.Item.ok y := by
  have hl : s.Items.length ≤ 1048576 := by simp only [M.aG.sz] at hz; omega
  unfold zD aFu
  refine aMu (L := gP s a) (xs := s.Items) (step := aNZ a) (I := fun k out => out.length ≤ k ∧ ∀ y ∈ out, M.Item.ok y) (E := fun out => some out) hs.Items.1 (fun out k hk hi => ⟨?_, fun y hy => ?_⟩) (fun n out k hk hi => ?_) (fun n out hi => ?_) [] ⟨Nat.le_refl _, by simp⟩
  · have := aKl a out s.Items[k]
    have := hi.1
    omega
  · rcases aKz hy with rfl | hy
    · exact hs.Items.2 _ (List.getElem_mem hk)
    · exact hi.2 y hy
  · have hx := hs.Items.2 _ (List.getElem_mem hk)
    have hzx : M.Item.sz s.Items[k] ≤ 1073741824 := by
      have := cA (f := M.Item.sz) (List.getElem_mem hk)
      simp only [M.aG.sz] at hz
      omega
    have hi1 := hi.1
    simp only [gP]
    rw [if_pos (bA hk), aN hk, Option.bind_some, wK hx.aU, Option.bind_some, bD (by omega), aBA]
    unfold aNZ
    by_cases hg : (pC s.Items[k].aU a).2 = true
    · have hp := aKk (aD9 a s.Items[k]) out out.length
      rw [if_pos hg, if_pos hg, aL5 (by omega) hx hi.2 fuel out.length (by unfold fuel; omega) (Nat.le_refl _)]
      generalize nPl (aD9 a s.Items[k]) out out.length = p at hp
      simp only [Int.toNat_natCast]
      rw [aKb hp, Option.bind_some, rF (by simp only [List.length_nil, List.length_take]; omega), Option.bind_some, aET _ hzx, Option.bind_some, rF (by simp only [List.length_cons, List.length_nil, List.length_take]; omega), Option.bind_some, rF (by simp only [List.length_append, List.length_cons, List.length_nil, List.length_take, List.length_drop]; omega), Option.bind_some, List.append_assoc, List.singleton_append]
    · rw [if_neg hg, if_neg hg]
  · simp only [gP]
    rw [if_neg (by rw [aO]; simp)]
theorem aKg {s : M.aG} {a : ByteArray} (hs : s.ok) (hz : M.aG.sz s ≤ 1048576) : yT s a = some (aFu s a) ∧ (aFu s a).length ≤ s.Items.length ∧ ∀ y ∈ aFu s a, M.Item.ok y := by
  have hl : s.Items.length ≤ 1048576 := by simp only [M.aG.sz] at hz; omega
  unfold yT aFu
  refine aMu (L := gH s a) (xs := s.Items) (step := aNZ a) (I := fun k out => out.length ≤ k ∧ ∀ y ∈ out, M.Item.ok y) (E := fun out => some out) hs.Items.1 (fun out k hk hi => ⟨?_, fun y hy => ?_⟩) (fun n out k hk hi => ?_) (fun n out hi => ?_) [] ⟨Nat.le_refl _, by simp⟩
  · have := aKl a out s.Items[k]
    have := hi.1
    omega
  · rcases aKz hy with rfl | hy
    · exact hs.Items.2 _ (List.getElem_mem hk)
    · exact hi.2 y hy
  · have hx := hs.Items.2 _ (List.getElem_mem hk)
    have hzx : M.Item.sz s.Items[k] ≤ 1073741824 := by
      have := cA (f := M.Item.sz) (List.getElem_mem hk)
      simp only [M.aG.sz] at hz
      omega
    have hi1 := hi.1
    simp only [gH]
    rw [if_pos (bA hk), aN hk, Option.bind_some, mU hx.aU, Option.bind_some, bD (by omega), aBA]
    unfold aNZ
    by_cases hg : (pC s.Items[k].aU a).2 = true
    · have hp := aKk (aD9 a s.Items[k]) out out.length
      rw [if_pos hg, if_pos hg, aMi (by omega) hx hi.2 fuel out.length (by unfold fuel; omega) (Nat.le_refl _)]
      generalize nPl (aD9 a s.Items[k]) out out.length = p at hp
      simp only [Int.toNat_natCast]
      rw [aDL _ hzx, Option.bind_some, aNV ⟨by omega, by simpa using hp, by simp, by simp only [List.length_cons, List.length_nil]; omega⟩, Option.bind_some, List.singleton_append]
    · rw [if_neg hg, if_neg hg]
  · simp only [gH]
    rw [if_neg (by rw [aO]; simp)]
theorem aMj {a : ByteArray} {l : List M.Item} (ho : ∀ y ∈ l, M.Item.ok y) : ∀ (n : Nat) (v : Int), iO a l n v = eV a l n v
  | 0, v => rfl
  | n + 1, v => by
    simp only [iO, eV, aMj ho n]
    cases h1 : idx l (IntKind.i64.wrap (v - 1)) with
    | none => rfl
    | some x =>
      have hx := (ho x (aMY h1)).aU
      simp only [Option.bind_some, wK hx, mU hx]
      cases h2 : idx l v with
      | none => rfl
      | some y =>
        have hy := (ho y (aMY h2)).aU
        simp only [Option.bind_some, wK hy, mU hy]
theorem aMI {a : ByteArray} {l : List M.Item} (ho : ∀ y ∈ l, M.Item.ok y) (hl : l.length ≤ 1048576) : ∀ (n k : Nat), l.length - k < n → 1 ≤ k → ∃ r, eV a l n (k : Int) = some r
  | 0, k, h, _ => by omega
  | n + 1, k, h, h1 => by
    simp only [eV]
    by_cases hk : k < l.length
    · have e : IntKind.i64.wrap ((k : Int) - 1) = ((k - 1 : Nat) : Int) := by rw [eS (by omega) (by omega)]; omega
      have hk1 : k - 1 < l.length := by omega
      rw [if_pos (bA hk), e, aN hk1, Option.bind_some, mU (ho _ (List.getElem_mem hk1)).aU, Option.bind_some, aN hk, Option.bind_some, mU (ho _ (List.getElem_mem hk)).aU, Option.bind_some, bD (by omega)]
      split
      · exact ⟨_, rfl⟩
      · exact aMI ho hl n (k + 1) (by omega) (by omega)
    · rw [if_neg (by simp; omega)]
      exact ⟨_, rfl⟩
def aIG (s : M.aG) (a : ByteArray) : M.Key × M.Key × Bool := (gZ s a).getD (⟨0, 0, ⟨#[]⟩⟩, ⟨0, 0, ⟨#[]⟩⟩, false)
theorem aB9 {s : M.aG} {a : ByteArray} (hs : s.ok) (hz : M.aG.sz s ≤ 1048576) : gZ s a = some (aIG s a) := by
  obtain ⟨e, hl, ho⟩ := aKg (a := a) hs hz
  have hl2 : s.Items.length ≤ 1048576 := by simp only [M.aG.sz] at hz; omega
  obtain ⟨r, hr⟩ := aMI (a := a) ho (by omega) fuel 1 (by unfold fuel; omega) (by omega)
  have : gZ s a = some r := by
    unfold gZ
    rw [e, Option.bind_some]
    exact hr
  unfold aIG
  rw [this]
  rfl
theorem aEU {s : M.aG} {a : ByteArray} (hs : s.ok) (hz : M.aG.sz s ≤ 1048576) : oQ s a = some (aIG s a) := by
  obtain ⟨e, hl, ho⟩ := aNx (a := a) hs hz
  obtain ⟨e2, _⟩ := aKg (a := a) hs hz
  rw [← aB9 hs hz]
  unfold oQ gZ
  rw [e, e2, Option.bind_some, Option.bind_some]
  exact aMj ho _ _
def aDg (l : List M.aG) (k : Nat) : Bool := (l[k]?).any aCc && (decide (k = 0) || (l[k - 1]?).any fun y => (l[k]?).any fun x => Op.bytesLess y.Name.toList x.Name.toList)
def aBm (x y : M.aA) : Bool := (x.aG.toList == y.aG.toList) && (x.Field.toList == y.Field.toList)
def aIO (l : List M.aA) (k : Nat) (x : M.aA) : Bool := (List.range k).all fun j => !((l[j]?).any fun y => aBm y x)
def aFl (d : M.Database) (k : Nat) : Bool := (d.Unique[k]?).any fun u => decide (0 ≤ aBa (aF2 u.aG) d.Stores) && (pV u.Field && (!((d.Stores[(aBa (aF2 u.aG) d.Stores).toNat]?).any fun s => (aIG s u.Field).2.2) && aIO d.Unique k u))
def nDb (d : M.Database) : Bool := (List.range d.Stores.length).all (aDg d.Stores) && ((List.range d.Unique.length).all (aFl d) && (pV d.Name && (inR d.Version 0 1000 && (decide (d.Stores.length ≤ 4) && decide (d.Unique.length ≤ 4)))))
theorem aNA {l : List M.aA} {k : Nat} {x : M.aA} (hk : k ≤ l.length) : (l.take k).any (aBm x) = !(aIO l k x) := by
  have hc : ∀ y, aBm y x = aBm x y := fun y => by
    unfold aBm
    rw [BEq.comm (a := y.aG.toList), BEq.comm (a := y.Field.toList)]
  unfold aIO
  rw [Bool.eq_iff_iff]
  simp only [List.any_eq_true, Bool.not_eq_true', List.all_eq_false, List.mem_range, Bool.not_eq_true, Bool.not_eq_false', hc]
  constructor
  · rintro ⟨y, hy, hs⟩
    obtain ⟨j, hj, rfl⟩ := List.mem_iff_getElem.1 hy
    rw [List.length_take] at hj
    refine ⟨j, by omega, ?_⟩
    rw [List.getElem?_eq_getElem (by omega), Option.any_some]
    rw [List.getElem_take] at hs
    simp [hs]
  · rintro ⟨j, hj, hs⟩
    rw [List.getElem?_eq_getElem (by omega), Option.any_some] at hs
    refine ⟨l[j], List.mem_iff_getElem.2 ⟨j, by rw [List.length_take]; omega, by rw [List.getElem_take]⟩, by simpa using hs⟩
theorem aHv {l : List M.aA} {x : M.aA} (hl : l.length ≤ maxLen) : gT l x = some (l.any (aBm x)) := by
  have hm := le_max hl
  have : iU l x = some (aBa (aBm x) l) := by
    unfold iU
    rw [findAll (L := dF l x) (f := aBm x) (A := fun i => some (i : Int)) (E := some (-1)) hl (fun m k hk => ?_) (fun m => ?_), mT]
    · simp only [dF]
      rw [if_pos (bA hk), aN hk, Option.bind_some, bD (by omega)]
      rfl
    · simp only [dF]
      rw [if_neg (by rw [aO]; simp)]
  unfold gT
  rw [this, Option.bind_some, aGd]
theorem aLj {d : M.Database} {u : M.aA} {k : Nat} {K : Int → Option Bool} (hm : d.Unique.length ≤ maxLen) (hk : k ≤ d.Unique.length) : fK d (k : Int) u K fuel 0 = if aIO d.Unique k u = true then K (k : Int) else some false := by
  have hm' := le_max hm
  refine kB (L := fK d (k : Int) u K) (g := fun j => !((d.Unique[j]?).any fun y => aBm y u)) (F := some false) (E := K (k : Int)) (Nat.le_trans hk hm) (fun n j hj => ?_) (fun n => ?_)
  · have hj' : j < d.Unique.length := by omega
    simp only [fK]
    rw [if_pos (bA hj), aN hj', Option.bind_some, bD (by omega), List.getElem?_eq_getElem hj', Option.any_some, aBA]
    rfl
  · simp only [fK]
    rw [if_neg (by rw [aO]; simp)]
theorem aK9 {d : M.Database} (hz : M.Database.sz d ≤ 1048576) : ∀ s ∈ d.Stores, M.aG.sz s ≤ 1048576 := fun s hs => by
  have := cA (f := M.aG.sz) hs
  simp only [M.Database.sz] at hz
  omega
theorem aKx (a b : List UInt8) : (Op.bytesLess a b || a == b) = !(Op.bytesLess b a) := by
  have h := aCu b a
  cases h1 : Op.bytesLess b a <;> cases h2 : (Op.bytesLess a b || a == b) <;> simp_all
theorem aFd {d : M.Database} (hd : d.ok) (hz : M.Database.sz d ≤ 1048576) : rM d = some (nDb d) := by
  have hm := le_max hd.Stores.1
  have hm2 := le_max hd.Unique.1
  unfold rM nDb
  rw [kB (L := eL d) (g := aDg d.Stores) (F := some false) (E := eH d fuel 0) hd.Stores.1 (fun n k hk => ?_) (fun n => ?_),
    kB (L := eH d) (g := aFl d) (F := some false) (E := some (pV d.Name && (inR d.Version 0 1000 && (decide (d.Stores.length ≤ 4) && decide (d.Unique.length ≤ 4))))) hd.Unique.1 (fun n k hk => ?_) (fun n => ?_), bM, bM]
  · have hf := hd.Unique.2 _ (List.getElem_mem hk)
    simp only [eH]
    rw [if_pos (bA hk), aN hk, Option.bind_some, aGI hd, Option.bind_some, bD (by omega)]
    unfold aFl
    rw [List.getElem?_eq_getElem hk, Option.any_some, eG hf.Field, Option.bind_some]
    by_cases h : aBa (aF2 d.Unique[k].aG) d.Stores < 0
    · rw [if_pos (by simpa using h), decide_eq_false (by omega)]
      simp
    · obtain ⟨j, e, hj⟩ := aBo h
      have hs := hd.Stores.2 _ (List.getElem_mem hj)
      rw [if_neg (by simpa using h), e, aN hj, Option.bind_some, aEU hs (aK9 hz _ (List.getElem_mem hj)), Option.bind_some, Int.toNat_natCast, List.getElem?_eq_getElem hj, Option.any_some, aLj hd.Unique.1 (by omega)]
      have : decide ((0 : Int) ≤ (j : Int)) = true := by simp
      rw [this]
      generalize eH d n ((k + 1 : Nat) : Int) = Z
      cases pV d.Unique[k].Field <;> cases (aIG d.Stores[j] d.Unique[k].Field).2.2 <;> cases aIO d.Unique k d.Unique[k] <;> simp
  · simp only [eH]
    rw [if_neg (by rw [aO]; simp), eG hd.Name, Option.bind_some, dE, Option.bind_some, bM, bM, bM]
    congr 3
    have e1 : decide ((d.Stores.length : Int) ≤ 4) = decide (d.Stores.length ≤ 4) := by rw [Bool.eq_iff_iff]; simp; omega
    have e2 : decide ((d.Unique.length : Int) ≤ 4) = decide (d.Unique.length ≤ 4) := by rw [Bool.eq_iff_iff]; simp; omega
    rw [e1, e2]
  · have hf := hd.Stores.2 _ (List.getElem_mem hk)
    simp only [eL]
    rw [if_pos (bA hk), aN hk, Option.bind_some, bD (by omega), aCN hf, Option.bind_some]
    unfold aDg
    rw [List.getElem?_eq_getElem hk]
    generalize eL d n ((k + 1 : Nat) : Int) = Z
    by_cases h0 : k = 0
    · subst h0
      simp only [Option.any_some]
      cases aCc d.Stores[0] <;> simp
    · have e : IntKind.i64.wrap ((k : Int) - 1) = ((k - 1 : Nat) : Int) := by rw [eS (by omega) (by omega)]; omega
      have hk1 : k - 1 < d.Stores.length := by omega
      rw [if_pos (c := (decide ((k : Int) > 0)) = true) (by simp; omega), e, aN hk1, Option.bind_some, List.getElem?_eq_getElem hk1]
      simp only [Option.any_some, h0, decide_false, Bool.false_or]
      cases aCc d.Stores[k] <;> cases Op.bytesLess d.Stores[k - 1].Name.toList d.Stores[k].Name.toList <;> simp
  · simp only [eL]
    rw [if_neg (by rw [aO]; simp)]
theorem aFM {d : M.Database} (hd : d.ok) (hz : M.Database.sz d ≤ 1048576) : rT d = some (nDb d) := by
  have hm := le_max hd.Stores.1
  have hm2 := le_max hd.Unique.1
  unfold rT nDb
  rw [kB (L := cY d) (g := aDg d.Stores) (F := some false) (E := dB d fuel 0) hd.Stores.1 (fun n k hk => ?_) (fun n => ?_),
    kB (L := dB d) (g := aFl d) (F := some false) (E := some true) hd.Unique.1 (fun n k hk => ?_) (fun n => ?_)]
  · simp only [dK hd.Name, bP, Option.bind_some]
    have e1 : decide ((d.Stores.length : Int) > 4) = !decide (d.Stores.length ≤ 4) := by rw [Bool.eq_iff_iff]; simp; omega
    have e2 : decide ((d.Unique.length : Int) > 4) = !decide (d.Unique.length ≤ 4) := by rw [Bool.eq_iff_iff]; simp; omega
    rw [e1, e2]
    cases pV d.Name <;> cases inR d.Version 0 1000 <;> cases decide (d.Stores.length ≤ 4) <;> cases decide (d.Unique.length ≤ 4) <;> cases (List.range d.Stores.length).all (aDg d.Stores) <;> cases (List.range d.Unique.length).all (aFl d) <;> rfl
  · have hf := hd.Unique.2 _ (List.getElem_mem hk)
    simp only [dB]
    rw [if_pos (bA hk), aN hk, Option.bind_some, aGL hd, Option.bind_some, bD (by omega)]
    unfold aFl
    rw [List.getElem?_eq_getElem hk, Option.any_some, dK hf.Field, Option.bind_some, aKb (by omega), Option.bind_some, Int.toNat_natCast, aHv (Nat.le_trans (by rw [List.length_take]; exact Nat.min_le_right _ _) hd.Unique.1), Option.bind_some, aNA (by omega)]
    by_cases h : aBa (aF2 d.Unique[k].aG) d.Stores < 0
    · rw [if_pos (by simpa using h), decide_eq_false (by omega)]
      simp
    · obtain ⟨j, e, hj⟩ := aBo h
      have hs := hd.Stores.2 _ (List.getElem_mem hj)
      rw [if_neg (by simpa using h), e, aN hj, Option.bind_some, aB9 hs (aK9 hz _ (List.getElem_mem hj)), Option.bind_some, Int.toNat_natCast, List.getElem?_eq_getElem hj, Option.any_some]
      have : decide ((0 : Int) ≤ (j : Int)) = true := by simp
      rw [this]
      generalize dB d n ((k + 1 : Nat) : Int) = Z
      cases pV d.Unique[k].Field <;> cases (aIG d.Stores[j] d.Unique[k].Field).2.2 <;> cases aIO d.Unique k d.Unique[k] <;> simp
  · simp only [dB]
    rw [if_neg (by rw [aO]; simp)]
  · have hf := hd.Stores.2 _ (List.getElem_mem hk)
    simp only [cY]
    rw [if_pos (bA hk), aN hk, Option.bind_some, bD (by omega), aCL hf, Option.bind_some]
    unfold aDg
    rw [List.getElem?_eq_getElem hk]
    generalize cY d n ((k + 1 : Nat) : Int) = Z
    by_cases h0 : k = 0
    · subst h0
      simp only [Option.any_some]
      cases aCc d.Stores[0] <;> simp
    · have e : IntKind.i64.wrap ((k : Int) - 1) = ((k - 1 : Nat) : Int) := by rw [eS (by omega) (by omega)]; omega
      have hk1 : k - 1 < d.Stores.length := by omega
      rw [if_pos (c := (decide ((k : Int) > 0)) = true) (by simp; omega), e, aN hk1, Option.bind_some, List.getElem?_eq_getElem hk1, aKx]
      simp only [Option.any_some, h0, decide_false, Bool.false_or]
      cases aCc d.Stores[k] <;> cases Op.bytesLess d.Stores[k - 1].Name.toList d.Stores[k].Name.toList <;> simp
  · simp only [cY]
    rw [if_neg (by rw [aO]; simp)]
def aB3 (b : M.aE) : Bool := pV b.Site && (pV b.Top && (aQH b.Registration && ((b.Registration.Site.toList == b.Site.toList) && (aDG b.Caches && (nDb b.bF.Base && (aEk b.aC && (inR b.LastUsed 0 1000000000000 && decide (aJo b ≤ 2500))))))))
theorem aJv {b : M.aE} (hz : M.aE.sz b ≤ 1048576) : M.Database.sz b.bF.Base ≤ 1048576 := by
  simp only [M.aE.sz, M.bF.sz] at hz
  omega
theorem aGD {b : M.aE} (hb : b.ok) (hz : M.Database.sz b.bF.Base ≤ 1048576) : rK b = some (aB3 b) := by
  unfold rK aB3
  simp only [eG hb.Site, eG hb.Top, aBU hb.Registration, aFK hb.Caches, aFd hb.bF.Base hz, aF9 hb.aC, dE, aHs hb, Option.bind_some, bM]
theorem aHW {b : M.aE} (hb : b.ok) (hz : M.aE.sz b ≤ 1048576) : rK b = some (aB3 b) := aGD hb (aJv hz)
theorem aGN {b : M.aE} (hb : b.ok) (hz : M.Database.sz b.bF.Base ≤ 1048576) : qI b = some (aB3 b) := by
  unfold qI aB3
  simp only [dK hb.Site, dK hb.Top, aDB hb.Registration, aFp hb.Caches, aFM hb.bF.Base hz, aGG hb.aC, bP, aH2 hb, Option.bind_some, bM]
theorem aG1 {b : M.aE} (hb : b.ok) (hz : M.aE.sz b ≤ 1048576) : qI b = some (aB3 b) := aGN hb (aJv hz)
def aEF (x y : M.aE) : Bool := Op.bytesLess x.Site.toList y.Site.toList || ((x.Site.toList == y.Site.toList) && Op.bytesLess x.Top.toList y.Top.toList)
theorem aHn (x y : M.aE) : zO x y.Site y.Top = some (aEF x y) := by
  unfold zO aEF
  cases Op.bytesLess x.Site.toList y.Site.toList <;> cases (x.Site.toList == y.Site.toList) <;> simp
theorem aDy (x y : M.aE) : mL x y = some (aEF x y) := by
  unfold mL aEF
  cases Op.bytesLess x.Site.toList y.Site.toList <;> cases (x.Site.toList == y.Site.toList) <;> simp
def aDT (l : List M.aE) (k : Nat) : Bool := (l[k]?).any aB3 && (decide (k = 0) || (l[k - 1]?).any fun y => (l[k]?).any fun x => aEF y x)
def aAk (s : M.aK) : Bool := (List.range s.Buckets.length).all (aDT s.Buckets) && decide ((s.Buckets.length : Int) ≤ 9)
theorem aFg {s : M.aK} (hs : s.ok) (hz : ∀ b ∈ s.Buckets, M.aE.sz b ≤ 1048576) : nR s = some (aAk s) := by
  have hm := le_max hs.Buckets.1
  unfold nR aAk
  rw [kB (L := eY s) (g := aDT s.Buckets) (F := some false) (E := some (decide ((s.Buckets.length : Int) ≤ 9))) hs.Buckets.1 (fun n k hk => ?_) (fun n => ?_), bM]
  · have hf := hs.Buckets.2 _ (List.getElem_mem hk)
    have hzb : M.aE.sz s.Buckets[k] ≤ 1048576 := hz _ (List.getElem_mem hk)
    simp only [eY]
    rw [if_pos (bA hk), aN hk, Option.bind_some, bD (by omega), aHW hf hzb, Option.bind_some]
    unfold aDT
    rw [List.getElem?_eq_getElem hk]
    generalize eY s n ((k + 1 : Nat) : Int) = Z
    by_cases h0 : k = 0
    · subst h0
      simp only [Option.any_some]
      cases aB3 s.Buckets[0] <;> simp
    · have e : IntKind.i64.wrap ((k : Int) - 1) = ((k - 1 : Nat) : Int) := by rw [eS (by omega) (by omega)]; omega
      have hk1 : k - 1 < s.Buckets.length := by omega
      rw [if_pos (c := (decide ((k : Int) > 0)) = true) (by simp; omega), e, aN hk1, Option.bind_some, aHn, Option.bind_some, List.getElem?_eq_getElem hk1]
      simp only [Option.any_some, h0, decide_false, Bool.false_or]
      cases aB3 s.Buckets[k] <;> cases aEF s.Buckets[k - 1] s.Buckets[k] <;> simp
  · simp only [eY]
    rw [if_neg (by rw [aO]; simp)]
theorem aGU {s : M.aK} (hs : s.ok) (hz : M.aK.sz s ≤ 1048576) : nR s = some (aAk s) := aFg hs (fun b hb => by
  have := cA (f := M.aE.sz) hb
  simp only [M.aK.sz] at hz
  omega)
theorem aFQ {s : M.aK} (hs : s.ok) (hz : ∀ b ∈ s.Buckets, M.aE.sz b ≤ 1048576) : nQ s = some (aAk s) := by
  have hm := le_max hs.Buckets.1
  unfold nQ aAk
  rw [kB (L := eZ s) (g := aDT s.Buckets) (F := some false) (E := some (decide ((s.Buckets.length : Int) ≤ 9))) hs.Buckets.1 (fun n k hk => ?_) (fun n => ?_), bM]
  · have hf := hs.Buckets.2 _ (List.getElem_mem hk)
    have hzb : M.aE.sz s.Buckets[k] ≤ 1048576 := hz _ (List.getElem_mem hk)
    simp only [eZ]
    rw [if_pos (bA hk), aN hk, Option.bind_some, bD (by omega), aG1 hf hzb, Option.bind_some]
    unfold aDT
    rw [List.getElem?_eq_getElem hk]
    generalize eZ s n ((k + 1 : Nat) : Int) = Z
    by_cases h0 : k = 0
    · subst h0
      simp only [Option.any_some]
      cases aB3 s.Buckets[0] <;> simp
    · have e : IntKind.i64.wrap ((k : Int) - 1) = ((k - 1 : Nat) : Int) := by rw [eS (by omega) (by omega)]; omega
      have hk1 : k - 1 < s.Buckets.length := by omega
      rw [if_pos (c := (decide ((k : Int) > 0)) = true) (by simp; omega), e, aN hk1, Option.bind_some, aDy, Option.bind_some, List.getElem?_eq_getElem hk1]
      simp only [Option.any_some, h0, decide_false, Bool.false_or]
      cases aB3 s.Buckets[k] <;> cases aEF s.Buckets[k - 1] s.Buckets[k] <;> simp
  · simp only [eZ]
    rw [if_neg (by rw [aO]; simp)]
theorem aGX {s : M.aK} (hs : s.ok) (hz : M.aK.sz s ≤ 1048576) : nQ s = some (aAk s) := aFQ hs (fun b hb => by
  have := cA (f := M.aE.sz) hb
  simp only [M.aK.sz] at hz
  omega)
end Go.Proofs.YtecmnmaaopkdfaaGreat.gen
