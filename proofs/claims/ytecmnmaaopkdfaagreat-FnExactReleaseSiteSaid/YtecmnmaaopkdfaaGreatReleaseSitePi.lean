/-
  Helper text. No conditions.
-/
import Derived.Test.YtecmnmaaopkdfaaGreatReleaseSitePh
namespace Go.Proofs.YtecmnmaaopkdfaaGreat.gen
open Go Go.Sh
set_option linter.unusedVariables false
set_option linter.unusedSimpArgs false
def nPl (f : M.Item → Bool) (l : List M.Item) : Nat → Nat
  | 0 => 0
  | k + 1 => if (l[k]?).any f = true then nPl f l k else k + 1
theorem aJk (f : M.Item → Bool) (l : List M.Item) : ∀ k, nPl f l k ≤ k
  | 0 => by simp [nPl]
  | k + 1 => by
    unfold nPl
    split
    · exact Nat.le_succ_of_le (aJk f l k)
    · exact Nat.le_refl _
theorem aK1 {α : Type} {l : List α} {i : Int} {x : α} (h : idx l i = some x) : x ∈ l := List.mem_of_getElem? (aR h).2.1
theorem aIz {α : Type} {l : List α} {k : Nat} (h : k ≤ l.length) : aHL l (k : Int) = some (l.take k) := by
  unfold aHL
  rw [if_pos ⟨by omega, by simpa using h⟩, Int.toNat_natCast]
def aLs (a : ByteArray) (out : List M.Item) (x : M.Item) : List M.Item :=
  if (mZ x.aU a).2 = true then out.take (nPl (aCv a x) out out.length) ++ (x :: out.drop (nPl (aCv a x) out out.length)) else out
def aEs (s : M.aH) (a : ByteArray) : List M.Item := s.Items.foldl (aLs a) []
theorem aJw (a : ByteArray) (out : List M.Item) (x : M.Item) : (aLs a out x).length ≤ out.length + 1 := by
  unfold aLs
  have := aJk (aCv a x) out out.length
  split
  · simp only [List.length_append, List.length_take, List.length_cons, List.length_drop]; omega
  · omega
theorem aJa {a : ByteArray} {out : List M.Item} {x y : M.Item} (h : y ∈ aLs a out x) : y = x ∨ y ∈ out := by
  unfold aLs at h
  split at h
  · rcases List.mem_append.1 h with h | h
    · exact .inr (List.mem_of_mem_take h)
    · rcases List.mem_cons.1 h with h | h
      · exact .inl h
      · exact .inr (List.mem_of_mem_drop h)
  · exact .inr h
theorem aLX {a : ByteArray} {l : List M.Item} {x : M.Item} {K : Int → Option (List M.Item)} (hl : l.length ≤ 1048576) (hx : x.ok) (ho : ∀ y ∈ l, M.Item.ok y) :
    ∀ (n k : Nat), k < n → k ≤ l.length → gC a l x K n (k : Int) = K ((nPl (aCv a x) l k : Nat) : Int)
  | 0, k, h, _ => by omega
  | n + 1, 0, h, _ => by
    simp only [gC, nPl]
    rw [if_neg (by simp)]
  | n + 1, k + 1, h, hk => by
    have hk' : k < l.length := by omega
    have e : IntKind.i64.wrap (((k + 1 : Nat) : Int) - 1) = (k : Int) := by rw [iN (by omega) (by omega)]; omega
    simp only [gC]
    rw [if_pos (by simp), e, aN hk', Option.bind_some, aHU hx (ho _ (List.getElem_mem hk')), Option.bind_some, nPl, List.getElem?_eq_getElem hk', Option.any_some]
    cases hc : aCv a x l[k] with
    | true => rw [if_pos rfl, if_pos rfl]; exact aLX hl hx ho n k (by omega) (by omega)
    | false => rw [if_neg (by simp), if_neg (by simp)]
theorem aK2 {a : ByteArray} {l : List M.Item} {x : M.Item} {K : Int → Option (List M.Item)} (hl : l.length ≤ 1048576) (hx : x.ok) (ho : ∀ y ∈ l, M.Item.ok y) :
    ∀ (n k : Nat), k < n → k ≤ l.length → gG a l x K n (k : Int) = K ((nPl (aCv a x) l k : Nat) : Int)
  | 0, k, h, _ => by omega
  | n + 1, 0, h, _ => by
    simp only [gG, nPl]
    rw [if_neg (by simp)]
  | n + 1, k + 1, h, hk => by
    have hk' : k < l.length := by omega
    have e : IntKind.i64.wrap (((k + 1 : Nat) : Int) - 1) = (k : Int) := by rw [iN (by omega) (by omega)]; omega
    simp only [gG]
    rw [if_pos (by simp), e, aN hk', Option.bind_some, aDj hx (ho _ (List.getElem_mem hk')), Option.bind_some, nPl, List.getElem?_eq_getElem hk', Option.any_some]
    cases hc : aCv a x l[k] with
    | true => rw [if_pos rfl, if_pos rfl]; exact aK2 hl hx ho n k (by omega) (by omega)
    | false => rw [if_neg (by simp), if_neg (by simp)]
theorem aL7 {s : M.aH} {a : ByteArray} (hs : s.ok) (hz : M.aH.sz s ≤ 1048576) : xB s a = some (aEs s a) ∧ (aEs s a).length ≤ s.Items.length ∧ ∀ y ∈ aEs s a, M.Item.ok y := by
  have hl : s.Items.length ≤ 1048576 := by simp only [M.aH.sz] at hz; omega
  unfold xB aEs
  refine aKY (L := gF s a) (xs := s.Items) (step := aLs a) (I := fun k out => out.length ≤ k ∧ ∀ y ∈ out, M.Item.ok y) (E := fun out => some out) hs.Items.1 (fun out k hk hi => ⟨?_, fun y hy => ?_⟩) (fun n out k hk hi => ?_) (fun n out hi => ?_) [] ⟨Nat.le_refl _, by simp⟩
  · have := aJw a out s.Items[k]
    have := hi.1
    omega
  · rcases aJa hy with rfl | hy
    · exact hs.Items.2 _ (List.getElem_mem hk)
    · exact hi.2 y hy
  · have hx := hs.Items.2 _ (List.getElem_mem hk)
    have hzx : M.Item.sz s.Items[k] ≤ 1073741824 := by
      have := cO (f := M.Item.sz) (List.getElem_mem hk)
      simp only [M.aH.sz] at hz
      omega
    have hi1 := hi.1
    simp only [gF]
    rw [if_pos (bA hk), aN hk, Option.bind_some, uL hx.aU, Option.bind_some, bE (by omega), aAW]
    unfold aLs
    by_cases hg : (mZ s.Items[k].aU a).2 = true
    · have hp := aJk (aCv a s.Items[k]) out out.length
      rw [if_pos hg, if_pos hg, aLX (by omega) hx hi.2 fuel out.length (by unfold fuel; omega) (Nat.le_refl _)]
      generalize nPl (aCv a s.Items[k]) out out.length = p at hp
      simp only [Int.toNat_natCast]
      rw [aIz hp, Option.bind_some, aAZ (by simp only [List.length_nil, List.length_take]; omega), Option.bind_some, aDV _ hzx, Option.bind_some, aAZ (by simp only [List.length_cons, List.length_nil, List.length_take]; omega), Option.bind_some, aAZ (by simp only [List.length_append, List.length_cons, List.length_nil, List.length_take, List.length_drop]; omega), Option.bind_some, List.append_assoc, List.singleton_append]
    · rw [if_neg hg, if_neg hg]
  · simp only [gF]
    rw [if_neg (by rw [aO]; simp)]
theorem aJu {s : M.aH} {a : ByteArray} (hs : s.ok) (hz : M.aH.sz s ≤ 1048576) : wY s a = some (aEs s a) ∧ (aEs s a).length ≤ s.Items.length ∧ ∀ y ∈ aEs s a, M.Item.ok y := by
  have hl : s.Items.length ≤ 1048576 := by simp only [M.aH.sz] at hz; omega
  unfold wY aEs
  refine aKY (L := gB s a) (xs := s.Items) (step := aLs a) (I := fun k out => out.length ≤ k ∧ ∀ y ∈ out, M.Item.ok y) (E := fun out => some out) hs.Items.1 (fun out k hk hi => ⟨?_, fun y hy => ?_⟩) (fun n out k hk hi => ?_) (fun n out hi => ?_) [] ⟨Nat.le_refl _, by simp⟩
  · have := aJw a out s.Items[k]
    have := hi.1
    omega
  · rcases aJa hy with rfl | hy
    · exact hs.Items.2 _ (List.getElem_mem hk)
    · exact hi.2 y hy
  · have hx := hs.Items.2 _ (List.getElem_mem hk)
    have hzx : M.Item.sz s.Items[k] ≤ 1073741824 := by
      have := cO (f := M.Item.sz) (List.getElem_mem hk)
      simp only [M.aH.sz] at hz
      omega
    have hi1 := hi.1
    simp only [gB]
    rw [if_pos (bA hk), aN hk, Option.bind_some, lZ hx.aU, Option.bind_some, bE (by omega), aAW]
    unfold aLs
    by_cases hg : (mZ s.Items[k].aU a).2 = true
    · have hp := aJk (aCv a s.Items[k]) out out.length
      rw [if_pos hg, if_pos hg, aK2 (by omega) hx hi.2 fuel out.length (by unfold fuel; omega) (Nat.le_refl _)]
      generalize nPl (aCv a s.Items[k]) out out.length = p at hp
      simp only [Int.toNat_natCast]
      rw [aCL _ hzx, Option.bind_some, aL4 ⟨by omega, by simpa using hp, by simp, by simp only [List.length_cons, List.length_nil]; omega⟩, Option.bind_some, List.singleton_append]
    · rw [if_neg hg, if_neg hg]
  · simp only [gB]
    rw [if_neg (by rw [aO]; simp)]
theorem aLI {a : ByteArray} {l : List M.Item} (ho : ∀ y ∈ l, M.Item.ok y) : ∀ (n : Nat) (v : Int), hY a l n v = eO a l n v
  | 0, v => rfl
  | n + 1, v => by
    simp only [hY, eO, aLI ho n]
    cases h1 : idx l (IntKind.i64.wrap (v - 1)) with
    | none => rfl
    | some x =>
      have hx := (ho x (aK1 h1)).aU
      simp only [Option.bind_some, uL hx, lZ hx]
      cases h2 : idx l v with
      | none => rfl
      | some y =>
        have hy := (ho y (aK1 h2)).aU
        simp only [Option.bind_some, uL hy, lZ hy]
theorem aKz {a : ByteArray} {l : List M.Item} (ho : ∀ y ∈ l, M.Item.ok y) (hl : l.length ≤ 1048576) : ∀ (n k : Nat), l.length - k < n → 1 ≤ k → ∃ r, eO a l n (k : Int) = some r
  | 0, k, h, _ => by omega
  | n + 1, k, h, h1 => by
    simp only [eO]
    by_cases hk : k < l.length
    · have e : IntKind.i64.wrap ((k : Int) - 1) = ((k - 1 : Nat) : Int) := by rw [iN (by omega) (by omega)]; omega
      have hk1 : k - 1 < l.length := by omega
      rw [if_pos (bA hk), e, aN hk1, Option.bind_some, lZ (ho _ (List.getElem_mem hk1)).aU, Option.bind_some, aN hk, Option.bind_some, lZ (ho _ (List.getElem_mem hk)).aU, Option.bind_some, bE (by omega)]
      split
      · exact ⟨_, rfl⟩
      · exact aKz ho hl n (k + 1) (by omega) (by omega)
    · rw [if_neg (by simp; omega)]
      exact ⟨_, rfl⟩
def aHA (s : M.aH) (a : ByteArray) : M.Key × M.Key × Bool := (gO s a).getD (⟨0, 0, ⟨#[]⟩⟩, ⟨0, 0, ⟨#[]⟩⟩, false)
theorem aBK {s : M.aH} {a : ByteArray} (hs : s.ok) (hz : M.aH.sz s ≤ 1048576) : gO s a = some (aHA s a) := by
  obtain ⟨e, hl, ho⟩ := aJu (a := a) hs hz
  have hl2 : s.Items.length ≤ 1048576 := by simp only [M.aH.sz] at hz; omega
  obtain ⟨r, hr⟩ := aKz (a := a) ho (by omega) fuel 1 (by unfold fuel; omega) (by omega)
  have : gO s a = some r := by
    unfold gO
    rw [e, Option.bind_some]
    exact hr
  unfold aHA
  rw [this]
  rfl
theorem aDz {s : M.aH} {a : ByteArray} (hs : s.ok) (hz : M.aH.sz s ≤ 1048576) : nF s a = some (aHA s a) := by
  obtain ⟨e, hl, ho⟩ := aL7 (a := a) hs hz
  obtain ⟨e2, _⟩ := aJu (a := a) hs hz
  rw [← aBK hs hz]
  unfold nF gO
  rw [e, e2, Option.bind_some, Option.bind_some]
  exact aLI ho _ _
def aCc (l : List M.aH) (k : Nat) : Bool := (l[k]?).any aBc && (decide (k = 0) || (l[k - 1]?).any fun y => (l[k]?).any fun x => Op.bytesLess y.Name.toList x.Name.toList)
def aA0 (x y : M.aA) : Bool := (x.aH.toList == y.aH.toList) && (x.Field.toList == y.Field.toList)
def aGq (l : List M.aA) (k : Nat) (x : M.aA) : Bool := (List.range k).all fun j => !((l[j]?).any fun y => aA0 y x)
def aEe (d : M.Database) (k : Nat) : Bool := (d.Unique[k]?).any fun u => decide (0 ≤ aBx (aEq u.aH) d.Stores) && (oI u.Field && (!((d.Stores[(aBx (aEq u.aH) d.Stores).toNat]?).any fun s => (aHA s u.Field).2.2) && aGq d.Unique k u))
def nDb (d : M.Database) : Bool := (List.range d.Stores.length).all (aCc d.Stores) && ((List.range d.Unique.length).all (aEe d) && (oI d.Name && (inR d.Version 0 1000 && (decide (d.Stores.length ≤ 4) && decide (d.Unique.length ≤ 4)))))
theorem aLk {l : List M.aA} {k : Nat} {x : M.aA} (hk : k ≤ l.length) : (l.take k).any (aA0 x) = !(aGq l k x) := by
  have hc : ∀ y, aA0 y x = aA0 x y := fun y => by
    unfold aA0
    rw [BEq.comm (a := y.aH.toList), BEq.comm (a := y.Field.toList)]
  unfold aGq
  rw [Bool.eq_iff_iff]
  simp only [List.any_eq_true, Bool.not_eq_true', List.all_eq_false, List.mem_range, Bool.not_eq_true, Bool.not_eq_false', hc]
  constructor
  · rintro ⟨y, hy, hs⟩
    obtain ⟨j, hj, rfl⟩ := List.mem_iff_getElem.1 hy
    rw [List.length_take] at hj
    refine ⟨j, by omega, ?_⟩
    rw [List.getElem?_eq_getElem (by omega), Option.any_some]
    rw [List.getElem_take] at hs
    simp [hs]
  · rintro ⟨j, hj, hs⟩
    rw [List.getElem?_eq_getElem (by omega), Option.any_some] at hs
    refine ⟨l[j], List.mem_iff_getElem.2 ⟨j, by rw [List.length_take]; omega, by rw [List.getElem_take]⟩, by simpa using hs⟩
theorem aGX {l : List M.aA} {x : M.aA} (hl : l.length ≤ maxLen) : gH l x = some (l.any (aA0 x)) := by
  have hm := le_max hl
  have : iE l x = some (aBx (aA0 x) l) := by
    unfold iE
    rw [findAll (L := dA l x) (f := aA0 x) (A := fun i => some (i : Int)) (E := some (-1)) hl (fun m k hk => ?_) (fun m => ?_), zE]
    · simp only [dA]
      rw [if_pos (bA hk), aN hk, Option.bind_some, bE (by omega)]
      rfl
    · simp only [dA]
      rw [if_neg (by rw [aO]; simp)]
  unfold gH
  rw [this, Option.bind_some, aHQ]
theorem aKO {d : M.Database} {u : M.aA} {k : Nat} {K : Int → Option Bool} (hm : d.Unique.length ≤ maxLen) (hk : k ≤ d.Unique.length) : fB d (k : Int) u K fuel 0 = if aGq d.Unique k u = true then K (k : Int) else some false := by
  have hm' := le_max hm
  refine jC (L := fB d (k : Int) u K) (g := fun j => !((d.Unique[j]?).any fun y => aA0 y u)) (F := some false) (E := K (k : Int)) (Nat.le_trans hk hm) (fun n j hj => ?_) (fun n => ?_)
  · have hj' : j < d.Unique.length := by omega
    simp only [fB]
    rw [if_pos (bA hj), aN hj', Option.bind_some, bE (by omega), List.getElem?_eq_getElem hj', Option.any_some, aAW]
    rfl
  · simp only [fB]
    rw [if_neg (by rw [aO]; simp)]
theorem aJN {d : M.Database} (hz : M.Database.sz d ≤ 1048576) : ∀ s ∈ d.Stores, M.aH.sz s ≤ 1048576 := fun s hs => by
  have := cO (f := M.aH.sz) hs
  simp only [M.Database.sz] at hz
  omega
theorem aJ0 (a b : List UInt8) : (Op.bytesLess a b || a == b) = !(Op.bytesLess b a) := by
  have h := aBr b a
  cases h1 : Op.bytesLess b a <;> cases h2 : (Op.bytesLess a b || a == b) <;> simp_all
theorem aEU {d : M.Database} (hd : d.ok) (hz : M.Database.sz d ≤ 1048576) : qE d = some (nDb d) := by
  have hm := le_max hd.Stores.1
  have hm2 := le_max hd.Unique.1
  unfold qE nDb
  rw [jC (L := eG d) (g := aCc d.Stores) (F := some false) (E := dV d fuel 0) hd.Stores.1 (fun n k hk => ?_) (fun n => ?_),
    jC (L := dV d) (g := aEe d) (F := some false) (E := some (oI d.Name && (inR d.Version 0 1000 && (decide (d.Stores.length ≤ 4) && decide (d.Unique.length ≤ 4))))) hd.Unique.1 (fun n k hk => ?_) (fun n => ?_), bM, bM]
  · have hf := hd.Unique.2 _ (List.getElem_mem hk)
    simp only [dV]
    rw [if_pos (bA hk), aN hk, Option.bind_some, aE4 hd, Option.bind_some, bE (by omega)]
    unfold aEe
    rw [List.getElem?_eq_getElem hk, Option.any_some, eI hf.Field, Option.bind_some]
    by_cases h : aBx (aEq d.Unique[k].aH) d.Stores < 0
    · rw [if_pos (by simpa using h), decide_eq_false (by omega)]
      simp
    · obtain ⟨j, e, hj⟩ := aD3 h
      have hs := hd.Stores.2 _ (List.getElem_mem hj)
      rw [if_neg (by simpa using h), e, aN hj, Option.bind_some, aDz hs (aJN hz _ (List.getElem_mem hj)), Option.bind_some, Int.toNat_natCast, List.getElem?_eq_getElem hj, Option.any_some, aKO hd.Unique.1 (by omega)]
      have : decide ((0 : Int) ≤ (j : Int)) = true := by simp
      rw [this]
      generalize dV d n ((k + 1 : Nat) : Int) = Z
      cases oI d.Unique[k].Field <;> cases (aHA d.Stores[j] d.Unique[k].Field).2.2 <;> cases aGq d.Unique k d.Unique[k] <;> simp
  · simp only [dV]
    rw [if_neg (by rw [aO]; simp), eI hd.Name, Option.bind_some, cZ, Option.bind_some, bM, bM, bM]
    congr 3
    have e1 : decide ((d.Stores.length : Int) ≤ 4) = decide (d.Stores.length ≤ 4) := by rw [Bool.eq_iff_iff]; simp; omega
    have e2 : decide ((d.Unique.length : Int) ≤ 4) = decide (d.Unique.length ≤ 4) := by rw [Bool.eq_iff_iff]; simp; omega
    rw [e1, e2]
  · have hf := hd.Stores.2 _ (List.getElem_mem hk)
    simp only [eG]
    rw [if_pos (bA hk), aN hk, Option.bind_some, bE (by omega), aBU hf, Option.bind_some]
    unfold aCc
    rw [List.getElem?_eq_getElem hk]
    generalize eG d n ((k + 1 : Nat) : Int) = Z
    by_cases h0 : k = 0
    · subst h0
      simp only [Option.any_some]
      cases aBc d.Stores[0] <;> simp
    · have e : IntKind.i64.wrap ((k : Int) - 1) = ((k - 1 : Nat) : Int) := by rw [iN (by omega) (by omega)]; omega
      have hk1 : k - 1 < d.Stores.length := by omega
      rw [if_pos (c := (decide ((k : Int) > 0)) = true) (by simp; omega), e, aN hk1, Option.bind_some, List.getElem?_eq_getElem hk1]
      simp only [Option.any_some, h0, decide_false, Bool.false_or]
      cases aBc d.Stores[k] <;> cases Op.bytesLess d.Stores[k - 1].Name.toList d.Stores[k].Name.toList <;> simp
  · simp only [eG]
    rw [if_neg (by rw [aO]; simp)]
theorem aEW {d : M.Database} (hd : d.ok) (hz : M.Database.sz d ≤ 1048576) : pI d = some (nDb d) := by
  have hm := le_max hd.Stores.1
  have hm2 := le_max hd.Unique.1
  unfold pI nDb
  rw [jC (L := cU d) (g := aCc d.Stores) (F := some false) (E := cQ d fuel 0) hd.Stores.1 (fun n k hk => ?_) (fun n => ?_),
    jC (L := cQ d) (g := aEe d) (F := some false) (E := some true) hd.Unique.1 (fun n k hk => ?_) (fun n => ?_)]
  · simp only [dF hd.Name, bO, Option.bind_some]
    have e1 : decide ((d.Stores.length : Int) > 4) = !decide (d.Stores.length ≤ 4) := by rw [Bool.eq_iff_iff]; simp; omega
    have e2 : decide ((d.Unique.length : Int) > 4) = !decide (d.Unique.length ≤ 4) := by rw [Bool.eq_iff_iff]; simp; omega
    rw [e1, e2]
    cases oI d.Name <;> cases inR d.Version 0 1000 <;> cases decide (d.Stores.length ≤ 4) <;> cases decide (d.Unique.length ≤ 4) <;> cases (List.range d.Stores.length).all (aCc d.Stores) <;> cases (List.range d.Unique.length).all (aEe d) <;> rfl
  · have hf := hd.Unique.2 _ (List.getElem_mem hk)
    simp only [cQ]
    rw [if_pos (bA hk), aN hk, Option.bind_some, aFB hd, Option.bind_some, bE (by omega)]
    unfold aEe
    rw [List.getElem?_eq_getElem hk, Option.any_some, dF hf.Field, Option.bind_some, aIz (by omega), Option.bind_some, Int.toNat_natCast, aGX (Nat.le_trans (by rw [List.length_take]; exact Nat.min_le_right _ _) hd.Unique.1), Option.bind_some, aLk (by omega)]
    by_cases h : aBx (aEq d.Unique[k].aH) d.Stores < 0
    · rw [if_pos (by simpa using h), decide_eq_false (by omega)]
      simp
    · obtain ⟨j, e, hj⟩ := aD3 h
      have hs := hd.Stores.2 _ (List.getElem_mem hj)
      rw [if_neg (by simpa using h), e, aN hj, Option.bind_some, aBK hs (aJN hz _ (List.getElem_mem hj)), Option.bind_some, Int.toNat_natCast, List.getElem?_eq_getElem hj, Option.any_some]
      have : decide ((0 : Int) ≤ (j : Int)) = true := by simp
      rw [this]
      generalize cQ d n ((k + 1 : Nat) : Int) = Z
      cases oI d.Unique[k].Field <;> cases (aHA d.Stores[j] d.Unique[k].Field).2.2 <;> cases aGq d.Unique k d.Unique[k] <;> simp
  · simp only [cQ]
    rw [if_neg (by rw [aO]; simp)]
  · have hf := hd.Stores.2 _ (List.getElem_mem hk)
    simp only [cU]
    rw [if_pos (bA hk), aN hk, Option.bind_some, bE (by omega), aBW hf, Option.bind_some]
    unfold aCc
    rw [List.getElem?_eq_getElem hk]
    generalize cU d n ((k + 1 : Nat) : Int) = Z
    by_cases h0 : k = 0
    · subst h0
      simp only [Option.any_some]
      cases aBc d.Stores[0] <;> simp
    · have e : IntKind.i64.wrap ((k : Int) - 1) = ((k - 1 : Nat) : Int) := by rw [iN (by omega) (by omega)]; omega
      have hk1 : k - 1 < d.Stores.length := by omega
      rw [if_pos (c := (decide ((k : Int) > 0)) = true) (by simp; omega), e, aN hk1, Option.bind_some, List.getElem?_eq_getElem hk1, aJ0]
      simp only [Option.any_some, h0, decide_false, Bool.false_or]
      cases aBc d.Stores[k] <;> cases Op.bytesLess d.Stores[k - 1].Name.toList d.Stores[k].Name.toList <;> simp
  · simp only [cU]
    rw [if_neg (by rw [aO]; simp)]
def aBA (b : M.aE) : Bool := oI b.Site && (oI b.Top && (aOY b.Registration && ((b.Registration.Site.toList == b.Site.toList) && (aCE b.Caches && (nDb b.bC.Base && (aDq b.aC && (inR b.LastUsed 0 1000000000000 && decide (aH4 b ≤ 2500))))))))
theorem aH1 {b : M.aE} (hz : M.aE.sz b ≤ 1048576) : M.Database.sz b.bC.Base ≤ 1048576 := by
  simp only [M.aE.sz, M.bC.sz] at hz
  omega
theorem aFE {b : M.aE} (hb : b.ok) (hz : M.Database.sz b.bC.Base ≤ 1048576) : pY b = some (aBA b) := by
  unfold pY aBA
  simp only [eI hb.Site, eI hb.Top, aAm hb.Registration, aEj hb.Caches, aEU hb.bC.Base hz, aFH hb.aC, cZ, aGU hb, Option.bind_some, bM]
theorem aFo {b : M.aE} (hb : b.ok) (hz : M.aE.sz b ≤ 1048576) : pY b = some (aBA b) := aFE hb (aH1 hz)
theorem aFL {b : M.aE} (hb : b.ok) (hz : M.Database.sz b.bC.Base ≤ 1048576) : qG b = some (aBA b) := by
  unfold qG aBA
  simp only [dF hb.Site, dF hb.Top, aCX hb.Registration, aEJ hb.Caches, aEW hb.bC.Base hz, aFK hb.aC, bO, aGj hb, Option.bind_some, bM]
theorem aFb {b : M.aE} (hb : b.ok) (hz : M.aE.sz b ≤ 1048576) : qG b = some (aBA b) := aFL hb (aH1 hz)
def aDF (x y : M.aE) : Bool := Op.bytesLess x.Site.toList y.Site.toList || ((x.Site.toList == y.Site.toList) && Op.bytesLess x.Top.toList y.Top.toList)
theorem aGo (x y : M.aE) : yH x y.Site y.Top = some (aDF x y) := by
  unfold yH aDF
  cases Op.bytesLess x.Site.toList y.Site.toList <;> cases (x.Site.toList == y.Site.toList) <;> simp
theorem aC6 (x y : M.aE) : lP x y = some (aDF x y) := by
  unfold lP aDF
  cases Op.bytesLess x.Site.toList y.Site.toList <;> cases (x.Site.toList == y.Site.toList) <;> simp
def aCR (l : List M.aE) (k : Nat) : Bool := (l[k]?).any aBA && (decide (k = 0) || (l[k - 1]?).any fun y => (l[k]?).any fun x => aDF y x)
def aAK (s : M.aK) : Bool := (List.range s.Buckets.length).all (aCR s.Buckets) && decide ((s.Buckets.length : Int) ≤ 9)
theorem aEV {s : M.aK} (hs : s.ok) (hz : ∀ b ∈ s.Buckets, M.aE.sz b ≤ 1048576) : mH s = some (aAK s) := by
  have hm := le_max hs.Buckets.1
  unfold mH aAK
  rw [jC (L := eV s) (g := aCR s.Buckets) (F := some false) (E := some (decide ((s.Buckets.length : Int) ≤ 9))) hs.Buckets.1 (fun n k hk => ?_) (fun n => ?_), bM]
  · have hf := hs.Buckets.2 _ (List.getElem_mem hk)
    have hzb : M.aE.sz s.Buckets[k] ≤ 1048576 := hz _ (List.getElem_mem hk)
    simp only [eV]
    rw [if_pos (bA hk), aN hk, Option.bind_some, bE (by omega), aFo hf hzb, Option.bind_some]
    unfold aCR
    rw [List.getElem?_eq_getElem hk]
    generalize eV s n ((k + 1 : Nat) : Int) = Z
    by_cases h0 : k = 0
    · subst h0
      simp only [Option.any_some]
      cases aBA s.Buckets[0] <;> simp
    · have e : IntKind.i64.wrap ((k : Int) - 1) = ((k - 1 : Nat) : Int) := by rw [iN (by omega) (by omega)]; omega
      have hk1 : k - 1 < s.Buckets.length := by omega
      rw [if_pos (c := (decide ((k : Int) > 0)) = true) (by simp; omega), e, aN hk1, Option.bind_some, aGo, Option.bind_some, List.getElem?_eq_getElem hk1]
      simp only [Option.any_some, h0, decide_false, Bool.false_or]
      cases aBA s.Buckets[k] <;> cases aDF s.Buckets[k - 1] s.Buckets[k] <;> simp
  · simp only [eV]
    rw [if_neg (by rw [aO]; simp)]
theorem aFG {s : M.aK} (hs : s.ok) (hz : M.aK.sz s ≤ 1048576) : mH s = some (aAK s) := aEV hs (fun b hb => by
  have := cO (f := M.aE.sz) hb
  simp only [M.aK.sz] at hz
  omega)
theorem aEO {s : M.aK} (hs : s.ok) (hz : ∀ b ∈ s.Buckets, M.aE.sz b ≤ 1048576) : mJ s = some (aAK s) := by
  have hm := le_max hs.Buckets.1
  unfold mJ aAK
  rw [jC (L := eS s) (g := aCR s.Buckets) (F := some false) (E := some (decide ((s.Buckets.length : Int) ≤ 9))) hs.Buckets.1 (fun n k hk => ?_) (fun n => ?_), bM]
  · have hf := hs.Buckets.2 _ (List.getElem_mem hk)
    have hzb : M.aE.sz s.Buckets[k] ≤ 1048576 := hz _ (List.getElem_mem hk)
    simp only [eS]
    rw [if_pos (bA hk), aN hk, Option.bind_some, bE (by omega), aFb hf hzb, Option.bind_some]
    unfold aCR
    rw [List.getElem?_eq_getElem hk]
    generalize eS s n ((k + 1 : Nat) : Int) = Z
    by_cases h0 : k = 0
    · subst h0
      simp only [Option.any_some]
      cases aBA s.Buckets[0] <;> simp
    · have e : IntKind.i64.wrap ((k : Int) - 1) = ((k - 1 : Nat) : Int) := by rw [iN (by omega) (by omega)]; omega
      have hk1 : k - 1 < s.Buckets.length := by omega
      rw [if_pos (c := (decide ((k : Int) > 0)) = true) (by simp; omega), e, aN hk1, Option.bind_some, aC6, Option.bind_some, List.getElem?_eq_getElem hk1]
      simp only [Option.any_some, h0, decide_false, Bool.false_or]
      cases aBA s.Buckets[k] <;> cases aDF s.Buckets[k - 1] s.Buckets[k] <;> simp
  · simp only [eS]
    rw [if_neg (by rw [aO]; simp)]
theorem aE7 {s : M.aK} (hs : s.ok) (hz : M.aK.sz s ≤ 1048576) : mJ s = some (aAK s) := aEO hs (fun b hb => by
  have := cO (f := M.aE.sz) hb
  simp only [M.aK.sz] at hz
  omega)
end Go.Proofs.YtecmnmaaopkdfaaGreat.gen
