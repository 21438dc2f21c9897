/-
  Helper text. No conditions.
-/
import Derived.Test.YtecmnmaaopkdfaaGreatPageLockPh
namespace Go.Proofs.YtecmnmaaopkdfaaGreat.gen
open Go Go.Sh
set_option linter.unusedVariables false
set_option linter.unusedSimpArgs false
def nPl (f : M.Item → Bool) (l : List M.Item) : Nat → Nat
  | 0 => 0
  | k + 1 => if (l[k]?).any f = true then nPl f l k else k + 1
theorem aJ9 (f : M.Item → Bool) (l : List M.Item) : ∀ k, nPl f l k ≤ k
  | 0 => by simp [nPl]
  | k + 1 => by
    unfold nPl
    split
    · exact Nat.le_succ_of_le (aJ9 f l k)
    · exact Nat.le_refl _
theorem aK0 {α : Type} {l : List α} {i : Int} {x : α} (h : idx l i = some x) : x ∈ l := List.mem_of_getElem? (aR h).2.1
theorem aHz {α : Type} {l : List α} {k : Nat} (h : k ≤ l.length) : aG7 l (k : Int) = some (l.take k) := by
  unfold aG7
  rw [if_pos ⟨by omega, by simpa using h⟩, Int.toNat_natCast]
def aMZ (a : ByteArray) (out : List M.Item) (x : M.Item) : List M.Item :=
  if (nL x.aU a).2 = true then out.take (nPl (aDN a x) out out.length) ++ (x :: out.drop (nPl (aDN a x) out out.length)) else out
def aFC (s : M.aH) (a : ByteArray) : List M.Item := s.Items.foldl (aMZ a) []
theorem aJ1 (a : ByteArray) (out : List M.Item) (x : M.Item) : (aMZ a out x).length ≤ out.length + 1 := by
  unfold aMZ
  have := aJ9 (aDN a x) out out.length
  split
  · simp only [List.length_append, List.length_take, List.length_cons, List.length_drop]; omega
  · omega
theorem aJa {a : ByteArray} {out : List M.Item} {x y : M.Item} (h : y ∈ aMZ a out x) : y = x ∨ y ∈ out := by
  unfold aMZ at h
  split at h
  · rcases List.mem_append.1 h with h | h
    · exact .inr (List.mem_of_mem_take h)
    · rcases List.mem_cons.1 h with h | h
      · exact .inl h
      · exact .inr (List.mem_of_mem_drop h)
  · exact .inr h
theorem aLC {a : ByteArray} {l : List M.Item} {x : M.Item} {K : Int → Option (List M.Item)} (hl : l.length ≤ 1048576) (hx : x.ok) (ho : ∀ y ∈ l, M.Item.ok y) :
    ∀ (n k : Nat), k < n → k ≤ l.length → gA a l x K n (k : Int) = K ((nPl (aDN a x) l k : Nat) : Int)
  | 0, k, h, _ => by omega
  | n + 1, 0, h, _ => by
    simp only [gA, nPl]
    rw [if_neg (by simp)]
  | n + 1, k + 1, h, hk => by
    have hk' : k < l.length := by omega
    have e : IntKind.i64.wrap (((k + 1 : Nat) : Int) - 1) = (k : Int) := by rw [iJ (by omega) (by omega)]; omega
    simp only [gA]
    rw [if_pos (by simp), e, aO hk', Option.bind_some, aHa hx (ho _ (List.getElem_mem hk')), Option.bind_some, nPl, List.getElem?_eq_getElem hk', Option.any_some]
    cases hc : aDN a x l[k] with
    | true => rw [if_pos rfl, if_pos rfl]; exact aLC hl hx ho n k (by omega) (by omega)
    | false => rw [if_neg (by simp), if_neg (by simp)]
theorem aKx {a : ByteArray} {l : List M.Item} {x : M.Item} {K : Int → Option (List M.Item)} (hl : l.length ≤ 1048576) (hx : x.ok) (ho : ∀ y ∈ l, M.Item.ok y) :
    ∀ (n k : Nat), k < n → k ≤ l.length → gJ a l x K n (k : Int) = K ((nPl (aDN a x) l k : Nat) : Int)
  | 0, k, h, _ => by omega
  | n + 1, 0, h, _ => by
    simp only [gJ, nPl]
    rw [if_neg (by simp)]
  | n + 1, k + 1, h, hk => by
    have hk' : k < l.length := by omega
    have e : IntKind.i64.wrap (((k + 1 : Nat) : Int) - 1) = (k : Int) := by rw [iJ (by omega) (by omega)]; omega
    simp only [gJ]
    rw [if_pos (by simp), e, aO hk', Option.bind_some, aDl hx (ho _ (List.getElem_mem hk')), Option.bind_some, nPl, List.getElem?_eq_getElem hk', Option.any_some]
    cases hc : aDN a x l[k] with
    | true => rw [if_pos rfl, if_pos rfl]; exact aKx hl hx ho n k (by omega) (by omega)
    | false => rw [if_neg (by simp), if_neg (by simp)]
theorem aMb {s : M.aH} {a : ByteArray} (hs : s.ok) (hz : M.aH.sz s ≤ 1048576) : yY s a = some (aFC s a) ∧ (aFC s a).length ≤ s.Items.length ∧ ∀ y ∈ aFC s a, M.Item.ok y := by
  have hl : s.Items.length ≤ 1048576 := by simp only [M.aH.sz] at hz; omega
  unfold yY aFC
  refine aLY (L := gB s a) (xs := s.Items) (step := aMZ a) (I := fun k out => out.length ≤ k ∧ ∀ y ∈ out, M.Item.ok y) (E := fun out => some out) hs.Items.1 (fun out k hk hi => ⟨?_, fun y hy => ?_⟩) (fun n out k hk hi => ?_) (fun n out hi => ?_) [] ⟨Nat.le_refl _, by simp⟩
  · have := aJ1 a out s.Items[k]
    have := hi.1
    omega
  · rcases aJa hy with rfl | hy
    · exact hs.Items.2 _ (List.getElem_mem hk)
    · exact hi.2 y hy
  · have hx := hs.Items.2 _ (List.getElem_mem hk)
    have hzx : M.Item.sz s.Items[k] ≤ 1073741824 := by
      have := cQ (f := M.Item.sz) (List.getElem_mem hk)
      simp only [M.aH.sz] at hz
      omega
    have hi1 := hi.1
    simp only [gB]
    rw [if_pos (bA hk), aO hk, Option.bind_some, uN hx.aU, Option.bind_some, bD (by omega), zN]
    unfold aMZ
    by_cases hg : (nL s.Items[k].aU a).2 = true
    · have hp := aJ9 (aDN a s.Items[k]) out out.length
      rw [if_pos hg, if_pos hg, aLC (by omega) hx hi.2 fuel out.length (by unfold fuel; omega) (Nat.le_refl _)]
      generalize nPl (aDN a s.Items[k]) out out.length = p at hp
      simp only [Int.toNat_natCast]
      rw [aHz hp, Option.bind_some, zG (by simp only [List.length_nil, List.length_take]; omega), Option.bind_some, aD2 _ hzx, Option.bind_some, zG (by simp only [List.length_cons, List.length_nil, List.length_take]; omega), Option.bind_some, zG (by simp only [List.length_append, List.length_cons, List.length_nil, List.length_take, List.length_drop]; omega), Option.bind_some, List.append_assoc, List.singleton_append]
    · rw [if_neg hg, if_neg hg]
  · simp only [gB]
    rw [if_neg (by rw [aP]; simp)]
theorem aKF {s : M.aH} {a : ByteArray} (hs : s.ok) (hz : M.aH.sz s ≤ 1048576) : yI s a = some (aFC s a) ∧ (aFC s a).length ≤ s.Items.length ∧ ∀ y ∈ aFC s a, M.Item.ok y := by
  have hl : s.Items.length ≤ 1048576 := by simp only [M.aH.sz] at hz; omega
  unfold yI aFC
  refine aLY (L := gG s a) (xs := s.Items) (step := aMZ a) (I := fun k out => out.length ≤ k ∧ ∀ y ∈ out, M.Item.ok y) (E := fun out => some out) hs.Items.1 (fun out k hk hi => ⟨?_, fun y hy => ?_⟩) (fun n out k hk hi => ?_) (fun n out hi => ?_) [] ⟨Nat.le_refl _, by simp⟩
  · have := aJ1 a out s.Items[k]
    have := hi.1
    omega
  · rcases aJa hy with rfl | hy
    · exact hs.Items.2 _ (List.getElem_mem hk)
    · exact hi.2 y hy
  · have hx := hs.Items.2 _ (List.getElem_mem hk)
    have hzx : M.Item.sz s.Items[k] ≤ 1073741824 := by
      have := cQ (f := M.Item.sz) (List.getElem_mem hk)
      simp only [M.aH.sz] at hz
      omega
    have hi1 := hi.1
    simp only [gG]
    rw [if_pos (bA hk), aO hk, Option.bind_some, lZ hx.aU, Option.bind_some, bD (by omega), zN]
    unfold aMZ
    by_cases hg : (nL s.Items[k].aU a).2 = true
    · have hp := aJ9 (aDN a s.Items[k]) out out.length
      rw [if_pos hg, if_pos hg, aKx (by omega) hx hi.2 fuel out.length (by unfold fuel; omega) (Nat.le_refl _)]
      generalize nPl (aDN a s.Items[k]) out out.length = p at hp
      simp only [Int.toNat_natCast]
      rw [aCR _ hzx, Option.bind_some, aMC ⟨by omega, by simpa using hp, by simp, by simp only [List.length_cons, List.length_nil]; omega⟩, Option.bind_some, List.singleton_append]
    · rw [if_neg hg, if_neg hg]
  · simp only [gG]
    rw [if_neg (by rw [aP]; simp)]
theorem aLe {a : ByteArray} {l : List M.Item} (ho : ∀ y ∈ l, M.Item.ok y) : ∀ (n : Nat) (v : Int), iC a l n v = eR a l n v
  | 0, v => rfl
  | n + 1, v => by
    simp only [iC, eR, aLe ho n]
    cases h1 : idx l (IntKind.i64.wrap (v - 1)) with
    | none => rfl
    | some x =>
      have hx := (ho x (aK0 h1)).aU
      simp only [Option.bind_some, uN hx, lZ hx]
      cases h2 : idx l v with
      | none => rfl
      | some y =>
        have hy := (ho y (aK0 h2)).aU
        simp only [Option.bind_some, uN hy, lZ hy]
theorem aLF {a : ByteArray} {l : List M.Item} (ho : ∀ y ∈ l, M.Item.ok y) (hl : l.length ≤ 1048576) : ∀ (n k : Nat), l.length - k < n → 1 ≤ k → ∃ r, eR a l n (k : Int) = some r
  | 0, k, h, _ => by omega
  | n + 1, k, h, h1 => by
    simp only [eR]
    by_cases hk : k < l.length
    · have e : IntKind.i64.wrap ((k : Int) - 1) = ((k - 1 : Nat) : Int) := by rw [iJ (by omega) (by omega)]; omega
      have hk1 : k - 1 < l.length := by omega
      rw [if_pos (bA hk), e, aO hk1, Option.bind_some, lZ (ho _ (List.getElem_mem hk1)).aU, Option.bind_some, aO hk, Option.bind_some, lZ (ho _ (List.getElem_mem hk)).aU, Option.bind_some, bD (by omega)]
      split
      · exact ⟨_, rfl⟩
      · exact aLF ho hl n (k + 1) (by omega) (by omega)
    · rw [if_neg (by simp; omega)]
      exact ⟨_, rfl⟩
def aHK (s : M.aH) (a : ByteArray) : M.Key × M.Key × Bool := (gS s a).getD (⟨0, 0, ⟨#[]⟩⟩, ⟨0, 0, ⟨#[]⟩⟩, false)
theorem aBc {s : M.aH} {a : ByteArray} (hs : s.ok) (hz : M.aH.sz s ≤ 1048576) : gS s a = some (aHK s a) := by
  obtain ⟨e, hl, ho⟩ := aKF (a := a) hs hz
  have hl2 : s.Items.length ≤ 1048576 := by simp only [M.aH.sz] at hz; omega
  obtain ⟨r, hr⟩ := aLF (a := a) ho (by omega) fuel 1 (by unfold fuel; omega) (by omega)
  have : gS s a = some r := by
    unfold gS
    rw [e, Option.bind_some]
    exact hr
  unfold aHK
  rw [this]
  rfl
theorem aDg {s : M.aH} {a : ByteArray} (hs : s.ok) (hz : M.aH.sz s ≤ 1048576) : nP s a = some (aHK s a) := by
  obtain ⟨e, hl, ho⟩ := aMb (a := a) hs hz
  obtain ⟨e2, _⟩ := aKF (a := a) hs hz
  rw [← aBc hs hz]
  unfold nP gS
  rw [e, e2, Option.bind_some, Option.bind_some]
  exact aLe ho _ _
def aCu (l : List M.aH) (k : Nat) : Bool := (l[k]?).any aBr && (decide (k = 0) || (l[k - 1]?).any fun y => (l[k]?).any fun x => Op.bytesLess y.Name.toList x.Name.toList)
def aBL (x y : M.aA) : Bool := (x.aH.toList == y.aH.toList) && (x.Field.toList == y.Field.toList)
def aHB (l : List M.aA) (k : Nat) (x : M.aA) : Bool := (List.range k).all fun j => !((l[j]?).any fun y => aBL y x)
def aEd (d : M.Database) (k : Nat) : Bool := (d.Unique[k]?).any fun u => decide (0 ≤ aBo (aE8 u.aH) d.Stores) && (oT u.Field && (!((d.Stores[(aBo (aE8 u.aH) d.Stores).toNat]?).any fun s => (aHK s u.Field).2.2) && aHB d.Unique k u))
def nDb (d : M.Database) : Bool := (List.range d.Stores.length).all (aCu d.Stores) && ((List.range d.Unique.length).all (aEd d) && (oT d.Name && (inR d.Version 0 1000 && (decide (d.Stores.length ≤ 4) && decide (d.Unique.length ≤ 4)))))
theorem aMS {l : List M.aA} {k : Nat} {x : M.aA} (hk : k ≤ l.length) : (l.take k).any (aBL x) = !(aHB l k x) := by
  have hc : ∀ y, aBL y x = aBL x y := fun y => by
    unfold aBL
    rw [BEq.comm (a := y.aH.toList), BEq.comm (a := y.Field.toList)]
  unfold aHB
  rw [Bool.eq_iff_iff]
  simp only [List.any_eq_true, Bool.not_eq_true', List.all_eq_false, List.mem_range, Bool.not_eq_true, Bool.not_eq_false', hc]
  constructor
  · rintro ⟨y, hy, hs⟩
    obtain ⟨j, hj, rfl⟩ := List.mem_iff_getElem.1 hy
    rw [List.length_take] at hj
    refine ⟨j, by omega, ?_⟩
    rw [List.getElem?_eq_getElem (by omega), Option.any_some]
    rw [List.getElem_take] at hs
    simp [hs]
  · rintro ⟨j, hj, hs⟩
    rw [List.getElem?_eq_getElem (by omega), Option.any_some] at hs
    refine ⟨l[j], List.mem_iff_getElem.2 ⟨j, by rw [List.length_take]; omega, by rw [List.getElem_take]⟩, by simpa using hs⟩
theorem aG1 {l : List M.aA} {x : M.aA} (hl : l.length ≤ maxLen) : gN l x = some (l.any (aBL x)) := by
  have hm := le_max hl
  have : iI l x = some (aBo (aBL x) l) := by
    unfold iI
    rw [findAll (L := dC l x) (f := aBL x) (A := fun i => some (i : Int)) (E := some (-1)) hl (fun m k hk => ?_) (fun m => ?_), wD]
    · simp only [dC]
      rw [if_pos (bA hk), aO hk, Option.bind_some, bD (by omega)]
      rfl
    · simp only [dC]
      rw [if_neg (by rw [aP]; simp)]
  unfold gN
  rw [this, Option.bind_some, aFu]
theorem aKX {d : M.Database} {u : M.aA} {k : Nat} {K : Int → Option Bool} (hm : d.Unique.length ≤ maxLen) (hk : k ≤ d.Unique.length) : fF d (k : Int) u K fuel 0 = if aHB d.Unique k u = true then K (k : Int) else some false := by
  have hm' := le_max hm
  refine jN (L := fF d (k : Int) u K) (g := fun j => !((d.Unique[j]?).any fun y => aBL y u)) (F := some false) (E := K (k : Int)) (Nat.le_trans hk hm) (fun n j hj => ?_) (fun n => ?_)
  · have hj' : j < d.Unique.length := by omega
    simp only [fF]
    rw [if_pos (bA hj), aO hj', Option.bind_some, bD (by omega), List.getElem?_eq_getElem hj', Option.any_some, zN]
    rfl
  · simp only [fF]
    rw [if_neg (by rw [aP]; simp)]
theorem aKB {d : M.Database} (hz : M.Database.sz d ≤ 1048576) : ∀ s ∈ d.Stores, M.aH.sz s ≤ 1048576 := fun s hs => by
  have := cQ (f := M.aH.sz) hs
  simp only [M.Database.sz] at hz
  omega
theorem aKH (a b : List UInt8) : (Op.bytesLess a b || a == b) = !(Op.bytesLess b a) := by
  have h := aB7 b a
  cases h1 : Op.bytesLess b a <;> cases h2 : (Op.bytesLess a b || a == b) <;> simp_all
theorem aEo {d : M.Database} (hd : d.ok) (hz : M.Database.sz d ≤ 1048576) : qV d = some (nDb d) := by
  have hm := le_max hd.Stores.1
  have hm2 := le_max hd.Unique.1
  unfold qV nDb
  rw [jN (L := eG d) (g := aCu d.Stores) (F := some false) (E := eI d fuel 0) hd.Stores.1 (fun n k hk => ?_) (fun n => ?_),
    jN (L := eI d) (g := aEd d) (F := some false) (E := some (oT d.Name && (inR d.Version 0 1000 && (decide (d.Stores.length ≤ 4) && decide (d.Unique.length ≤ 4))))) hd.Unique.1 (fun n k hk => ?_) (fun n => ?_), bN, bN]
  · have hf := hd.Unique.2 _ (List.getElem_mem hk)
    simp only [eI]
    rw [if_pos (bA hk), aO hk, Option.bind_some, aFU hd, Option.bind_some, bD (by omega)]
    unfold aEd
    rw [List.getElem?_eq_getElem hk, Option.any_some, eA hf.Field, Option.bind_some]
    by_cases h : aBo (aE8 d.Unique[k].aH) d.Stores < 0
    · rw [if_pos (by simpa using h), decide_eq_false (by omega)]
      simp
    · obtain ⟨j, e, hj⟩ := aDZ h
      have hs := hd.Stores.2 _ (List.getElem_mem hj)
      rw [if_neg (by simpa using h), e, aO hj, Option.bind_some, aDg hs (aKB hz _ (List.getElem_mem hj)), Option.bind_some, Int.toNat_natCast, List.getElem?_eq_getElem hj, Option.any_some, aKX hd.Unique.1 (by omega)]
      have : decide ((0 : Int) ≤ (j : Int)) = true := by simp
      rw [this]
      generalize eI d n ((k + 1 : Nat) : Int) = Z
      cases oT d.Unique[k].Field <;> cases (aHK d.Stores[j] d.Unique[k].Field).2.2 <;> cases aHB d.Unique k d.Unique[k] <;> simp
  · simp only [eI]
    rw [if_neg (by rw [aP]; simp), eA hd.Name, Option.bind_some, dB, Option.bind_some, bN, bN, bN]
    congr 3
    have e1 : decide ((d.Stores.length : Int) ≤ 4) = decide (d.Stores.length ≤ 4) := by rw [Bool.eq_iff_iff]; simp; omega
    have e2 : decide ((d.Unique.length : Int) ≤ 4) = decide (d.Unique.length ≤ 4) := by rw [Bool.eq_iff_iff]; simp; omega
    rw [e1, e2]
  · have hf := hd.Stores.2 _ (List.getElem_mem hk)
    simp only [eG]
    rw [if_pos (bA hk), aO hk, Option.bind_some, bD (by omega), aBm hf, Option.bind_some]
    unfold aCu
    rw [List.getElem?_eq_getElem hk]
    generalize eG d n ((k + 1 : Nat) : Int) = Z
    by_cases h0 : k = 0
    · subst h0
      simp only [Option.any_some]
      cases aBr d.Stores[0] <;> simp
    · have e : IntKind.i64.wrap ((k : Int) - 1) = ((k - 1 : Nat) : Int) := by rw [iJ (by omega) (by omega)]; omega
      have hk1 : k - 1 < d.Stores.length := by omega
      rw [if_pos (c := (decide ((k : Int) > 0)) = true) (by simp; omega), e, aO hk1, Option.bind_some, List.getElem?_eq_getElem hk1]
      simp only [Option.any_some, h0, decide_false, Bool.false_or]
      cases aBr d.Stores[k] <;> cases Op.bytesLess d.Stores[k - 1].Name.toList d.Stores[k].Name.toList <;> simp
  · simp only [eG]
    rw [if_neg (by rw [aP]; simp)]
theorem aEa {d : M.Database} (hd : d.ok) (hz : M.Database.sz d ≤ 1048576) : qH d = some (nDb d) := by
  have hm := le_max hd.Stores.1
  have hm2 := le_max hd.Unique.1
  unfold qH nDb
  rw [jN (L := cW d) (g := aCu d.Stores) (F := some false) (E := dA d fuel 0) hd.Stores.1 (fun n k hk => ?_) (fun n => ?_),
    jN (L := dA d) (g := aEd d) (F := some false) (E := some true) hd.Unique.1 (fun n k hk => ?_) (fun n => ?_)]
  · simp only [dK hd.Name, bO, Option.bind_some]
    have e1 : decide ((d.Stores.length : Int) > 4) = !decide (d.Stores.length ≤ 4) := by rw [Bool.eq_iff_iff]; simp; omega
    have e2 : decide ((d.Unique.length : Int) > 4) = !decide (d.Unique.length ≤ 4) := by rw [Bool.eq_iff_iff]; simp; omega
    rw [e1, e2]
    cases oT d.Name <;> cases inR d.Version 0 1000 <;> cases decide (d.Stores.length ≤ 4) <;> cases decide (d.Unique.length ≤ 4) <;> cases (List.range d.Stores.length).all (aCu d.Stores) <;> cases (List.range d.Unique.length).all (aEd d) <;> rfl
  · have hf := hd.Unique.2 _ (List.getElem_mem hk)
    simp only [dA]
    rw [if_pos (bA hk), aO hk, Option.bind_some, aFa hd, Option.bind_some, bD (by omega)]
    unfold aEd
    rw [List.getElem?_eq_getElem hk, Option.any_some, dK hf.Field, Option.bind_some, aHz (by omega), Option.bind_some, Int.toNat_natCast, aG1 (Nat.le_trans (by rw [List.length_take]; exact Nat.min_le_right _ _) hd.Unique.1), Option.bind_some, aMS (by omega)]
    by_cases h : aBo (aE8 d.Unique[k].aH) d.Stores < 0
    · rw [if_pos (by simpa using h), decide_eq_false (by omega)]
      simp
    · obtain ⟨j, e, hj⟩ := aDZ h
      have hs := hd.Stores.2 _ (List.getElem_mem hj)
      rw [if_neg (by simpa using h), e, aO hj, Option.bind_some, aBc hs (aKB hz _ (List.getElem_mem hj)), Option.bind_some, Int.toNat_natCast, List.getElem?_eq_getElem hj, Option.any_some]
      have : decide ((0 : Int) ≤ (j : Int)) = true := by simp
      rw [this]
      generalize dA d n ((k + 1 : Nat) : Int) = Z
      cases oT d.Unique[k].Field <;> cases (aHK d.Stores[j] d.Unique[k].Field).2.2 <;> cases aHB d.Unique k d.Unique[k] <;> simp
  · simp only [dA]
    rw [if_neg (by rw [aP]; simp)]
  · have hf := hd.Stores.2 _ (List.getElem_mem hk)
    simp only [cW]
    rw [if_pos (bA hk), aO hk, Option.bind_some, bD (by omega), aBn hf, Option.bind_some]
    unfold aCu
    rw [List.getElem?_eq_getElem hk]
    generalize cW d n ((k + 1 : Nat) : Int) = Z
    by_cases h0 : k = 0
    · subst h0
      simp only [Option.any_some]
      cases aBr d.Stores[0] <;> simp
    · have e : IntKind.i64.wrap ((k : Int) - 1) = ((k - 1 : Nat) : Int) := by rw [iJ (by omega) (by omega)]; omega
      have hk1 : k - 1 < d.Stores.length := by omega
      rw [if_pos (c := (decide ((k : Int) > 0)) = true) (by simp; omega), e, aO hk1, Option.bind_some, List.getElem?_eq_getElem hk1, aKH]
      simp only [Option.any_some, h0, decide_false, Bool.false_or]
      cases aBr d.Stores[k] <;> cases Op.bytesLess d.Stores[k - 1].Name.toList d.Stores[k].Name.toList <;> simp
  · simp only [cW]
    rw [if_neg (by rw [aP]; simp)]
def aBV (b : M.aE) : Bool := oT b.Site && (oT b.Top && (aOx b.Registration && ((b.Registration.Site.toList == b.Site.toList) && (aCm b.Caches && (nDb b.bE.Base && (aED b.aC && (inR b.LastUsed 0 1000000000000 && decide (aIE b ≤ 2500))))))))
theorem aIp {b : M.aE} (hz : M.aE.sz b ≤ 1048576) : M.Database.sz b.bE.Base ≤ 1048576 := by
  simp only [M.aE.sz, M.bE.sz] at hz
  omega
theorem aFW {b : M.aE} (hb : b.ok) (hz : M.Database.sz b.bE.Base ≤ 1048576) : qF b = some (aBV b) := by
  unfold qF aBV
  simp only [eA hb.Site, eA hb.Top, aA2 hb.Registration, aEe hb.Caches, aEo hb.bE.Base hz, aFX hb.aC, dB, aG5 hb, Option.bind_some, bN]
theorem aGO {b : M.aE} (hb : b.ok) (hz : M.aE.sz b ≤ 1048576) : qF b = some (aBV b) := aFW hb (aIp hz)
theorem aFg {b : M.aE} (hb : b.ok) (hz : M.Database.sz b.bE.Base ≤ 1048576) : pD b = some (aBV b) := by
  unfold pD aBV
  simp only [dK hb.Site, dK hb.Top, aCV hb.Registration, aEl hb.Caches, aEa hb.bE.Base hz, aFh hb.aC, bO, aGv hb, Option.bind_some, bN]
theorem aGI {b : M.aE} (hb : b.ok) (hz : M.aE.sz b ≤ 1048576) : pD b = some (aBV b) := aFg hb (aIp hz)
def aDQ (x y : M.aE) : Bool := Op.bytesLess x.Site.toList y.Site.toList || ((x.Site.toList == y.Site.toList) && Op.bytesLess x.Top.toList y.Top.toList)
theorem aGn (x y : M.aE) : xP x y.Site y.Top = some (aDQ x y) := by
  unfold xP aDQ
  cases Op.bytesLess x.Site.toList y.Site.toList <;> cases (x.Site.toList == y.Site.toList) <;> simp
theorem aDS (x y : M.aE) : mB x y = some (aDQ x y) := by
  unfold mB aDQ
  cases Op.bytesLess x.Site.toList y.Site.toList <;> cases (x.Site.toList == y.Site.toList) <;> simp
def aCX (l : List M.aE) (k : Nat) : Bool := (l[k]?).any aBV && (decide (k = 0) || (l[k - 1]?).any fun y => (l[k]?).any fun x => aDQ y x)
def aAY (s : M.aM) : Bool := (List.range s.Buckets.length).all (aCX s.Buckets) && decide ((s.Buckets.length : Int) ≤ 9)
theorem aEh {s : M.aM} (hs : s.ok) (hz : ∀ b ∈ s.Buckets, M.aE.sz b ≤ 1048576) : mV s = some (aAY s) := by
  have hm := le_max hs.Buckets.1
  unfold mV aAY
  rw [jN (L := eW s) (g := aCX s.Buckets) (F := some false) (E := some (decide ((s.Buckets.length : Int) ≤ 9))) hs.Buckets.1 (fun n k hk => ?_) (fun n => ?_), bN]
  · have hf := hs.Buckets.2 _ (List.getElem_mem hk)
    have hzb : M.aE.sz s.Buckets[k] ≤ 1048576 := hz _ (List.getElem_mem hk)
    simp only [eW]
    rw [if_pos (bA hk), aO hk, Option.bind_some, bD (by omega), aGO hf hzb, Option.bind_some]
    unfold aCX
    rw [List.getElem?_eq_getElem hk]
    generalize eW s n ((k + 1 : Nat) : Int) = Z
    by_cases h0 : k = 0
    · subst h0
      simp only [Option.any_some]
      cases aBV s.Buckets[0] <;> simp
    · have e : IntKind.i64.wrap ((k : Int) - 1) = ((k - 1 : Nat) : Int) := by rw [iJ (by omega) (by omega)]; omega
      have hk1 : k - 1 < s.Buckets.length := by omega
      rw [if_pos (c := (decide ((k : Int) > 0)) = true) (by simp; omega), e, aO hk1, Option.bind_some, aGn, Option.bind_some, List.getElem?_eq_getElem hk1]
      simp only [Option.any_some, h0, decide_false, Bool.false_or]
      cases aBV s.Buckets[k] <;> cases aDQ s.Buckets[k - 1] s.Buckets[k] <;> simp
  · simp only [eW]
    rw [if_neg (by rw [aP]; simp)]
theorem aFN {s : M.aM} (hs : s.ok) (hz : M.aM.sz s ≤ 1048576) : mV s = some (aAY s) := aEh hs (fun b hb => by
  have := cQ (f := M.aE.sz) hb
  simp only [M.aM.sz] at hz
  omega)
theorem aEy {s : M.aM} (hs : s.ok) (hz : ∀ b ∈ s.Buckets, M.aE.sz b ≤ 1048576) : mR s = some (aAY s) := by
  have hm := le_max hs.Buckets.1
  unfold mR aAY
  rw [jN (L := fA s) (g := aCX s.Buckets) (F := some false) (E := some (decide ((s.Buckets.length : Int) ≤ 9))) hs.Buckets.1 (fun n k hk => ?_) (fun n => ?_), bN]
  · have hf := hs.Buckets.2 _ (List.getElem_mem hk)
    have hzb : M.aE.sz s.Buckets[k] ≤ 1048576 := hz _ (List.getElem_mem hk)
    simp only [fA]
    rw [if_pos (bA hk), aO hk, Option.bind_some, bD (by omega), aGI hf hzb, Option.bind_some]
    unfold aCX
    rw [List.getElem?_eq_getElem hk]
    generalize fA s n ((k + 1 : Nat) : Int) = Z
    by_cases h0 : k = 0
    · subst h0
      simp only [Option.any_some]
      cases aBV s.Buckets[0] <;> simp
    · have e : IntKind.i64.wrap ((k : Int) - 1) = ((k - 1 : Nat) : Int) := by rw [iJ (by omega) (by omega)]; omega
      have hk1 : k - 1 < s.Buckets.length := by omega
      rw [if_pos (c := (decide ((k : Int) > 0)) = true) (by simp; omega), e, aO hk1, Option.bind_some, aDS, Option.bind_some, List.getElem?_eq_getElem hk1]
      simp only [Option.any_some, h0, decide_false, Bool.false_or]
      cases aBV s.Buckets[k] <;> cases aDQ s.Buckets[k - 1] s.Buckets[k] <;> simp
  · simp only [fA]
    rw [if_neg (by rw [aP]; simp)]
theorem aFO {s : M.aM} (hs : s.ok) (hz : M.aM.sz s ≤ 1048576) : mR s = some (aAY s) := aEy hs (fun b hb => by
  have := cQ (f := M.aE.sz) hb
  simp only [M.aM.sz] at hz
  omega)
end Go.Proofs.YtecmnmaaopkdfaaGreat.gen
