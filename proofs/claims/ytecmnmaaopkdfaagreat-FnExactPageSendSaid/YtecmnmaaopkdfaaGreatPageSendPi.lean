/-
  Helper text. No conditions.
-/
import Derived.Test.YtecmnmaaopkdfaaGreatPageSendPh
namespace Go.Proofs.YtecmnmaaopkdfaaGreat.gen
open Go Go.Sh
set_option linter.unusedVariables false
set_option linter.unusedSimpArgs false
def nPl (f : M.Item → Bool) (l : List M.Item) : Nat → Nat
  | 0 => 0
  | k + 1 => if (l[k]?).any f = true then nPl f l k else k + 1
theorem aJ0 (f : M.Item → Bool) (l : List M.Item) : ∀ k, nPl f l k ≤ k
  | 0 => by simp [nPl]
  | k + 1 => by
    unfold nPl
    split
    · exact Nat.le_succ_of_le (aJ0 f l k)
    · exact Nat.le_refl _
theorem aLw {α : Type} {l : List α} {i : Int} {x : α} (h : idx l i = some x) : x ∈ l := List.mem_of_getElem? (aR h).2.1
theorem aJT {α : Type} {l : List α} {k : Nat} (h : k ≤ l.length) : aHu l (k : Int) = some (l.take k) := by
  unfold aHu
  rw [if_pos ⟨by omega, by simpa using h⟩, Int.toNat_natCast]
def aMg (a : ByteArray) (out : List M.Item) (x : M.Item) : List M.Item :=
  if (nP x.aU a).2 = true then out.take (nPl (aC5 a x) out out.length) ++ (x :: out.drop (nPl (aC5 a x) out out.length)) else out
def aEy (s : M.aG) (a : ByteArray) : List M.Item := s.Items.foldl (aMg a) []
theorem aJj (a : ByteArray) (out : List M.Item) (x : M.Item) : (aMg a out x).length ≤ out.length + 1 := by
  unfold aMg
  have := aJ0 (aC5 a x) out out.length
  split
  · simp only [List.length_append, List.length_take, List.length_cons, List.length_drop]; omega
  · omega
theorem aJw {a : ByteArray} {out : List M.Item} {x y : M.Item} (h : y ∈ aMg a out x) : y = x ∨ y ∈ out := by
  unfold aMg at h
  split at h
  · rcases List.mem_append.1 h with h | h
    · exact .inr (List.mem_of_mem_take h)
    · rcases List.mem_cons.1 h with h | h
      · exact .inl h
      · exact .inr (List.mem_of_mem_drop h)
  · exact .inr h
theorem aK6 {a : ByteArray} {l : List M.Item} {x : M.Item} {K : Int → Option (List M.Item)} (hl : l.length ≤ 1048576) (hx : x.ok) (ho : ∀ y ∈ l, M.Item.ok y) :
    ∀ (n k : Nat), k < n → k ≤ l.length → gK a l x K n (k : Int) = K ((nPl (aC5 a x) l k : Nat) : Int)
  | 0, k, h, _ => by omega
  | n + 1, 0, h, _ => by
    simp only [gK, nPl]
    rw [if_neg (by simp)]
  | n + 1, k + 1, h, hk => by
    have hk' : k < l.length := by omega
    have e : IntKind.i64.wrap (((k + 1 : Nat) : Int) - 1) = (k : Int) := by rw [iG (by omega) (by omega)]; omega
    simp only [gK]
    rw [if_pos (by simp), e, aN hk', Option.bind_some, aH0 hx (ho _ (List.getElem_mem hk')), Option.bind_some, nPl, List.getElem?_eq_getElem hk', Option.any_some]
    cases hc : aC5 a x l[k] with
    | true => rw [if_pos rfl, if_pos rfl]; exact aK6 hl hx ho n k (by omega) (by omega)
    | false => rw [if_neg (by simp), if_neg (by simp)]
theorem aLt {a : ByteArray} {l : List M.Item} {x : M.Item} {K : Int → Option (List M.Item)} (hl : l.length ≤ 1048576) (hx : x.ok) (ho : ∀ y ∈ l, M.Item.ok y) :
    ∀ (n k : Nat), k < n → k ≤ l.length → gB a l x K n (k : Int) = K ((nPl (aC5 a x) l k : Nat) : Int)
  | 0, k, h, _ => by omega
  | n + 1, 0, h, _ => by
    simp only [gB, nPl]
    rw [if_neg (by simp)]
  | n + 1, k + 1, h, hk => by
    have hk' : k < l.length := by omega
    have e : IntKind.i64.wrap (((k + 1 : Nat) : Int) - 1) = (k : Int) := by rw [iG (by omega) (by omega)]; omega
    simp only [gB]
    rw [if_pos (by simp), e, aN hk', Option.bind_some, aDd hx (ho _ (List.getElem_mem hk')), Option.bind_some, nPl, List.getElem?_eq_getElem hk', Option.any_some]
    cases hc : aC5 a x l[k] with
    | true => rw [if_pos rfl, if_pos rfl]; exact aLt hl hx ho n k (by omega) (by omega)
    | false => rw [if_neg (by simp), if_neg (by simp)]
theorem aMf {s : M.aG} {a : ByteArray} (hs : s.ok) (hz : M.aG.sz s ≤ 1048576) : yM s a = some (aEy s a) ∧ (aEy s a).length ≤ s.Items.length ∧ ∀ y ∈ aEy s a, M.Item.ok y := by
  have hl : s.Items.length ≤ 1048576 := by simp only [M.aG.sz] at hz; omega
  unfold yM aEy
  refine aIr (L := gF s a) (xs := s.Items) (step := aMg a) (I := fun k out => out.length ≤ k ∧ ∀ y ∈ out, M.Item.ok y) (E := fun out => some out) hs.Items.1 (fun out k hk hi => ⟨?_, fun y hy => ?_⟩) (fun n out k hk hi => ?_) (fun n out hi => ?_) [] ⟨Nat.le_refl _, by simp⟩
  · have := aJj a out s.Items[k]
    have := hi.1
    omega
  · rcases aJw hy with rfl | hy
    · exact hs.Items.2 _ (List.getElem_mem hk)
    · exact hi.2 y hy
  · have hx := hs.Items.2 _ (List.getElem_mem hk)
    have hzx : M.Item.sz s.Items[k] ≤ 1073741824 := by
      have := dB (f := M.Item.sz) (List.getElem_mem hk)
      simp only [M.aG.sz] at hz
      omega
    have hi1 := hi.1
    simp only [gF]
    rw [if_pos (bA hk), aN hk, Option.bind_some, vT hx.aU, Option.bind_some, bE (by omega), zR]
    unfold aMg
    by_cases hg : (nP s.Items[k].aU a).2 = true
    · have hp := aJ0 (aC5 a s.Items[k]) out out.length
      rw [if_pos hg, if_pos hg, aK6 (by omega) hx hi.2 fuel out.length (by unfold fuel; omega) (Nat.le_refl _)]
      generalize nPl (aC5 a s.Items[k]) out out.length = p at hp
      simp only [Int.toNat_natCast]
      rw [aJT hp, Option.bind_some, wW (by simp only [List.length_nil, List.length_take]; omega), Option.bind_some, aD1 _ hzx, Option.bind_some, wW (by simp only [List.length_cons, List.length_nil, List.length_take]; omega), Option.bind_some, wW (by simp only [List.length_append, List.length_cons, List.length_nil, List.length_take, List.length_drop]; omega), Option.bind_some, List.append_assoc, List.singleton_append]
    · rw [if_neg hg, if_neg hg]
  · simp only [gF]
    rw [if_neg (by rw [aO]; simp)]
theorem aJ8 {s : M.aG} {a : ByteArray} (hs : s.ok) (hz : M.aG.sz s ≤ 1048576) : yO s a = some (aEy s a) ∧ (aEy s a).length ≤ s.Items.length ∧ ∀ y ∈ aEy s a, M.Item.ok y := by
  have hl : s.Items.length ≤ 1048576 := by simp only [M.aG.sz] at hz; omega
  unfold yO aEy
  refine aIr (L := gH s a) (xs := s.Items) (step := aMg a) (I := fun k out => out.length ≤ k ∧ ∀ y ∈ out, M.Item.ok y) (E := fun out => some out) hs.Items.1 (fun out k hk hi => ⟨?_, fun y hy => ?_⟩) (fun n out k hk hi => ?_) (fun n out hi => ?_) [] ⟨Nat.le_refl _, by simp⟩
  · have := aJj a out s.Items[k]
    have := hi.1
    omega
  · rcases aJw hy with rfl | hy
    · exact hs.Items.2 _ (List.getElem_mem hk)
    · exact hi.2 y hy
  · have hx := hs.Items.2 _ (List.getElem_mem hk)
    have hzx : M.Item.sz s.Items[k] ≤ 1073741824 := by
      have := dB (f := M.Item.sz) (List.getElem_mem hk)
      simp only [M.aG.sz] at hz
      omega
    have hi1 := hi.1
    simp only [gH]
    rw [if_pos (bA hk), aN hk, Option.bind_some, lR hx.aU, Option.bind_some, bE (by omega), zR]
    unfold aMg
    by_cases hg : (nP s.Items[k].aU a).2 = true
    · have hp := aJ0 (aC5 a s.Items[k]) out out.length
      rw [if_pos hg, if_pos hg, aLt (by omega) hx hi.2 fuel out.length (by unfold fuel; omega) (Nat.le_refl _)]
      generalize nPl (aC5 a s.Items[k]) out out.length = p at hp
      simp only [Int.toNat_natCast]
      rw [aCT _ hzx, Option.bind_some, aMO ⟨by omega, by simpa using hp, by simp, by simp only [List.length_cons, List.length_nil]; omega⟩, Option.bind_some, List.singleton_append]
    · rw [if_neg hg, if_neg hg]
  · simp only [gH]
    rw [if_neg (by rw [aO]; simp)]
theorem aLr {a : ByteArray} {l : List M.Item} (ho : ∀ y ∈ l, M.Item.ok y) : ∀ (n : Nat) (v : Int), iC a l n v = eS a l n v
  | 0, v => rfl
  | n + 1, v => by
    simp only [iC, eS, aLr ho n]
    cases h1 : idx l (IntKind.i64.wrap (v - 1)) with
    | none => rfl
    | some x =>
      have hx := (ho x (aLw h1)).aU
      simp only [Option.bind_some, vT hx, lR hx]
      cases h2 : idx l v with
      | none => rfl
      | some y =>
        have hy := (ho y (aLw h2)).aU
        simp only [Option.bind_some, vT hy, lR hy]
theorem aLa {a : ByteArray} {l : List M.Item} (ho : ∀ y ∈ l, M.Item.ok y) (hl : l.length ≤ 1048576) : ∀ (n k : Nat), l.length - k < n → 1 ≤ k → ∃ r, eS a l n (k : Int) = some r
  | 0, k, h, _ => by omega
  | n + 1, k, h, h1 => by
    simp only [eS]
    by_cases hk : k < l.length
    · have e : IntKind.i64.wrap ((k : Int) - 1) = ((k - 1 : Nat) : Int) := by rw [iG (by omega) (by omega)]; omega
      have hk1 : k - 1 < l.length := by omega
      rw [if_pos (bA hk), e, aN hk1, Option.bind_some, lR (ho _ (List.getElem_mem hk1)).aU, Option.bind_some, aN hk, Option.bind_some, lR (ho _ (List.getElem_mem hk)).aU, Option.bind_some, bE (by omega)]
      split
      · exact ⟨_, rfl⟩
      · exact aLa ho hl n (k + 1) (by omega) (by omega)
    · rw [if_neg (by simp; omega)]
      exact ⟨_, rfl⟩
def aHR (s : M.aG) (a : ByteArray) : M.Key × M.Key × Bool := (gX s a).getD (⟨0, 0, ⟨#[]⟩⟩, ⟨0, 0, ⟨#[]⟩⟩, false)
theorem aBg {s : M.aG} {a : ByteArray} (hs : s.ok) (hz : M.aG.sz s ≤ 1048576) : gX s a = some (aHR s a) := by
  obtain ⟨e, hl, ho⟩ := aJ8 (a := a) hs hz
  have hl2 : s.Items.length ≤ 1048576 := by simp only [M.aG.sz] at hz; omega
  obtain ⟨r, hr⟩ := aLa (a := a) ho (by omega) fuel 1 (by unfold fuel; omega) (by omega)
  have : gX s a = some r := by
    unfold gX
    rw [e, Option.bind_some]
    exact hr
  unfold aHR
  rw [this]
  rfl
theorem aDh {s : M.aG} {a : ByteArray} (hs : s.ok) (hz : M.aG.sz s ≤ 1048576) : nU s a = some (aHR s a) := by
  obtain ⟨e, hl, ho⟩ := aMf (a := a) hs hz
  obtain ⟨e2, _⟩ := aJ8 (a := a) hs hz
  rw [← aBg hs hz]
  unfold nU gX
  rw [e, e2, Option.bind_some, Option.bind_some]
  exact aLr ho _ _
def aCr (l : List M.aG) (k : Nat) : Bool := (l[k]?).any aBr && (decide (k = 0) || (l[k - 1]?).any fun y => (l[k]?).any fun x => Op.bytesLess y.Name.toList x.Name.toList)
def aBI (x y : M.aA) : Bool := (x.aG.toList == y.aG.toList) && (x.Field.toList == y.Field.toList)
def aHE (l : List M.aA) (k : Nat) (x : M.aA) : Bool := (List.range k).all fun j => !((l[j]?).any fun y => aBI y x)
def aEo (d : M.Database) (k : Nat) : Bool := (d.Unique[k]?).any fun u => decide (0 ≤ aBO (aFA u.aG) d.Stores) && (oO u.Field && (!((d.Stores[(aBO (aFA u.aG) d.Stores).toNat]?).any fun s => (aHR s u.Field).2.2) && aHE d.Unique k u))
def nDb (d : M.Database) : Bool := (List.range d.Stores.length).all (aCr d.Stores) && ((List.range d.Unique.length).all (aEo d) && (oO d.Name && (inR d.Version 0 1000 && (decide (d.Stores.length ≤ 4) && decide (d.Unique.length ≤ 4)))))
theorem aMc {l : List M.aA} {k : Nat} {x : M.aA} (hk : k ≤ l.length) : (l.take k).any (aBI x) = !(aHE l k x) := by
  have hc : ∀ y, aBI y x = aBI x y := fun y => by
    unfold aBI
    rw [BEq.comm (a := y.aG.toList), BEq.comm (a := y.Field.toList)]
  unfold aHE
  rw [Bool.eq_iff_iff]
  simp only [List.any_eq_true, Bool.not_eq_true', List.all_eq_false, List.mem_range, Bool.not_eq_true, Bool.not_eq_false', hc]
  constructor
  · rintro ⟨y, hy, hs⟩
    obtain ⟨j, hj, rfl⟩ := List.mem_iff_getElem.1 hy
    rw [List.length_take] at hj
    refine ⟨j, by omega, ?_⟩
    rw [List.getElem?_eq_getElem (by omega), Option.any_some]
    rw [List.getElem_take] at hs
    simp [hs]
  · rintro ⟨j, hj, hs⟩
    rw [List.getElem?_eq_getElem (by omega), Option.any_some] at hs
    refine ⟨l[j], List.mem_iff_getElem.2 ⟨j, by rw [List.length_take]; omega, by rw [List.getElem_take]⟩, by simpa using hs⟩
theorem aGm {l : List M.aA} {x : M.aA} (hl : l.length ≤ maxLen) : gM l x = some (l.any (aBI x)) := by
  have hm := le_max hl
  have : iL l x = some (aBO (aBI x) l) := by
    unfold iL
    rw [findAll (L := dD l x) (f := aBI x) (A := fun i => some (i : Int)) (E := some (-1)) hl (fun m k hk => ?_) (fun m => ?_), xL]
    · simp only [dD]
      rw [if_pos (bA hk), aN hk, Option.bind_some, bE (by omega)]
      rfl
    · simp only [dD]
      rw [if_neg (by rw [aO]; simp)]
  unfold gM
  rw [this, Option.bind_some, aH6]
theorem aKT {d : M.Database} {u : M.aA} {k : Nat} {K : Int → Option Bool} (hm : d.Unique.length ≤ maxLen) (hk : k ≤ d.Unique.length) : fH d (k : Int) u K fuel 0 = if aHE d.Unique k u = true then K (k : Int) else some false := by
  have hm' := le_max hm
  refine jJ (L := fH d (k : Int) u K) (g := fun j => !((d.Unique[j]?).any fun y => aBI y u)) (F := some false) (E := K (k : Int)) (Nat.le_trans hk hm) (fun n j hj => ?_) (fun n => ?_)
  · have hj' : j < d.Unique.length := by omega
    simp only [fH]
    rw [if_pos (bA hj), aN hj', Option.bind_some, bE (by omega), List.getElem?_eq_getElem hj', Option.any_some, zR]
    rfl
  · simp only [fH]
    rw [if_neg (by rw [aO]; simp)]
theorem aJa {d : M.Database} (hz : M.Database.sz d ≤ 1048576) : ∀ s ∈ d.Stores, M.aG.sz s ≤ 1048576 := fun s hs => by
  have := dB (f := M.aG.sz) hs
  simp only [M.Database.sz] at hz
  omega
theorem aJ4 (a b : List UInt8) : (Op.bytesLess a b || a == b) = !(Op.bytesLess b a) := by
  have h := aB8 b a
  cases h1 : Op.bytesLess b a <;> cases h2 : (Op.bytesLess a b || a == b) <;> simp_all
theorem aEg {d : M.Database} (hd : d.ok) (hz : M.Database.sz d ≤ 1048576) : pM d = some (nDb d) := by
  have hm := le_max hd.Stores.1
  have hm2 := le_max hd.Unique.1
  unfold pM nDb
  rw [jJ (L := eJ d) (g := aCr d.Stores) (F := some false) (E := eH d fuel 0) hd.Stores.1 (fun n k hk => ?_) (fun n => ?_),
    jJ (L := eH d) (g := aEo d) (F := some false) (E := some (oO d.Name && (inR d.Version 0 1000 && (decide (d.Stores.length ≤ 4) && decide (d.Unique.length ≤ 4))))) hd.Unique.1 (fun n k hk => ?_) (fun n => ?_), bL, bL]
  · have hf := hd.Unique.2 _ (List.getElem_mem hk)
    simp only [eH]
    rw [if_pos (bA hk), aN hk, Option.bind_some, aFP hd, Option.bind_some, bE (by omega)]
    unfold aEo
    rw [List.getElem?_eq_getElem hk, Option.any_some, eC hf.Field, Option.bind_some]
    by_cases h : aBO (aFA d.Unique[k].aG) d.Stores < 0
    · rw [if_pos (by simpa using h), decide_eq_false (by omega)]
      simp
    · obtain ⟨j, e, hj⟩ := aDS h
      have hs := hd.Stores.2 _ (List.getElem_mem hj)
      rw [if_neg (by simpa using h), e, aN hj, Option.bind_some, aDh hs (aJa hz _ (List.getElem_mem hj)), Option.bind_some, Int.toNat_natCast, List.getElem?_eq_getElem hj, Option.any_some, aKT hd.Unique.1 (by omega)]
      have : decide ((0 : Int) ≤ (j : Int)) = true := by simp
      rw [this]
      generalize eH d n ((k + 1 : Nat) : Int) = Z
      cases oO d.Unique[k].Field <;> cases (aHR d.Stores[j] d.Unique[k].Field).2.2 <;> cases aHE d.Unique k d.Unique[k] <;> simp
  · simp only [eH]
    rw [if_neg (by rw [aO]; simp), eC hd.Name, Option.bind_some, dC, Option.bind_some, bL, bL, bL]
    congr 3
    have e1 : decide ((d.Stores.length : Int) ≤ 4) = decide (d.Stores.length ≤ 4) := by rw [Bool.eq_iff_iff]; simp; omega
    have e2 : decide ((d.Unique.length : Int) ≤ 4) = decide (d.Unique.length ≤ 4) := by rw [Bool.eq_iff_iff]; simp; omega
    rw [e1, e2]
  · have hf := hd.Stores.2 _ (List.getElem_mem hk)
    simp only [eJ]
    rw [if_pos (bA hk), aN hk, Option.bind_some, bE (by omega), aBi hf, Option.bind_some]
    unfold aCr
    rw [List.getElem?_eq_getElem hk]
    generalize eJ d n ((k + 1 : Nat) : Int) = Z
    by_cases h0 : k = 0
    · subst h0
      simp only [Option.any_some]
      cases aBr d.Stores[0] <;> simp
    · have e : IntKind.i64.wrap ((k : Int) - 1) = ((k - 1 : Nat) : Int) := by rw [iG (by omega) (by omega)]; omega
      have hk1 : k - 1 < d.Stores.length := by omega
      rw [if_pos (c := (decide ((k : Int) > 0)) = true) (by simp; omega), e, aN hk1, Option.bind_some, List.getElem?_eq_getElem hk1]
      simp only [Option.any_some, h0, decide_false, Bool.false_or]
      cases aBr d.Stores[k] <;> cases Op.bytesLess d.Stores[k - 1].Name.toList d.Stores[k].Name.toList <;> simp
  · simp only [eJ]
    rw [if_neg (by rw [aO]; simp)]
theorem aEN {d : M.Database} (hd : d.ok) (hz : M.Database.sz d ≤ 1048576) : pC d = some (nDb d) := by
  have hm := le_max hd.Stores.1
  have hm2 := le_max hd.Unique.1
  unfold pC nDb
  rw [jJ (L := cY d) (g := aCr d.Stores) (F := some false) (E := dA d fuel 0) hd.Stores.1 (fun n k hk => ?_) (fun n => ?_),
    jJ (L := dA d) (g := aEo d) (F := some false) (E := some true) hd.Unique.1 (fun n k hk => ?_) (fun n => ?_)]
  · simp only [dI hd.Name, bO, Option.bind_some]
    have e1 : decide ((d.Stores.length : Int) > 4) = !decide (d.Stores.length ≤ 4) := by rw [Bool.eq_iff_iff]; simp; omega
    have e2 : decide ((d.Unique.length : Int) > 4) = !decide (d.Unique.length ≤ 4) := by rw [Bool.eq_iff_iff]; simp; omega
    rw [e1, e2]
    cases oO d.Name <;> cases inR d.Version 0 1000 <;> cases decide (d.Stores.length ≤ 4) <;> cases decide (d.Unique.length ≤ 4) <;> cases (List.range d.Stores.length).all (aCr d.Stores) <;> cases (List.range d.Unique.length).all (aEo d) <;> rfl
  · have hf := hd.Unique.2 _ (List.getElem_mem hk)
    simp only [dA]
    rw [if_pos (bA hk), aN hk, Option.bind_some, aFM hd, Option.bind_some, bE (by omega)]
    unfold aEo
    rw [List.getElem?_eq_getElem hk, Option.any_some, dI hf.Field, Option.bind_some, aJT (by omega), Option.bind_some, Int.toNat_natCast, aGm (Nat.le_trans (by rw [List.length_take]; exact Nat.min_le_right _ _) hd.Unique.1), Option.bind_some, aMc (by omega)]
    by_cases h : aBO (aFA d.Unique[k].aG) d.Stores < 0
    · rw [if_pos (by simpa using h), decide_eq_false (by omega)]
      simp
    · obtain ⟨j, e, hj⟩ := aDS h
      have hs := hd.Stores.2 _ (List.getElem_mem hj)
      rw [if_neg (by simpa using h), e, aN hj, Option.bind_some, aBg hs (aJa hz _ (List.getElem_mem hj)), Option.bind_some, Int.toNat_natCast, List.getElem?_eq_getElem hj, Option.any_some]
      have : decide ((0 : Int) ≤ (j : Int)) = true := by simp
      rw [this]
      generalize dA d n ((k + 1 : Nat) : Int) = Z
      cases oO d.Unique[k].Field <;> cases (aHR d.Stores[j] d.Unique[k].Field).2.2 <;> cases aHE d.Unique k d.Unique[k] <;> simp
  · simp only [dA]
    rw [if_neg (by rw [aO]; simp)]
  · have hf := hd.Stores.2 _ (List.getElem_mem hk)
    simp only [cY]
    rw [if_pos (bA hk), aN hk, Option.bind_some, bE (by omega), aBj hf, Option.bind_some]
    unfold aCr
    rw [List.getElem?_eq_getElem hk]
    generalize cY d n ((k + 1 : Nat) : Int) = Z
    by_cases h0 : k = 0
    · subst h0
      simp only [Option.any_some]
      cases aBr d.Stores[0] <;> simp
    · have e : IntKind.i64.wrap ((k : Int) - 1) = ((k - 1 : Nat) : Int) := by rw [iG (by omega) (by omega)]; omega
      have hk1 : k - 1 < d.Stores.length := by omega
      rw [if_pos (c := (decide ((k : Int) > 0)) = true) (by simp; omega), e, aN hk1, Option.bind_some, List.getElem?_eq_getElem hk1, aJ4]
      simp only [Option.any_some, h0, decide_false, Bool.false_or]
      cases aBr d.Stores[k] <;> cases Op.bytesLess d.Stores[k - 1].Name.toList d.Stores[k].Name.toList <;> simp
  · simp only [cY]
    rw [if_neg (by rw [aO]; simp)]
def aBR (b : M.aE) : Bool := oO b.Site && (oO b.Top && (aOv b.Registration && ((b.Registration.Site.toList == b.Site.toList) && (aCP b.Caches && (nDb b.bG.Base && (aDa b.aC && (inR b.LastUsed 0 1000000000000 && decide (aJB b ≤ 2500))))))))
theorem aIf {b : M.aE} (hz : M.aE.sz b ≤ 1048576) : M.Database.sz b.bG.Base ≤ 1048576 := by
  simp only [M.aE.sz, M.bG.sz] at hz
  omega
theorem aFb {b : M.aE} (hb : b.ok) (hz : M.Database.sz b.bG.Base ≤ 1048576) : pL b = some (aBR b) := by
  unfold pL aBR
  simp only [eC hb.Site, eC hb.Top, aAv hb.Registration, aEI hb.Caches, aEg hb.bG.Base hz, aFG hb.aC, dC, aG5 hb, Option.bind_some, bL]
theorem aGI {b : M.aE} (hb : b.ok) (hz : M.aE.sz b ≤ 1048576) : pL b = some (aBR b) := aFb hb (aIf hz)
theorem aFK {b : M.aE} (hb : b.ok) (hz : M.Database.sz b.bG.Base ≤ 1048576) : pF b = some (aBR b) := by
  unfold pF aBR
  simp only [dI hb.Site, dI hb.Top, aCf hb.Registration, aEW hb.Caches, aEN hb.bG.Base hz, aFW hb.aC, bO, aGu hb, Option.bind_some, bL]
theorem aFn {b : M.aE} (hb : b.ok) (hz : M.aE.sz b ≤ 1048576) : pF b = some (aBR b) := aFK hb (aIf hz)
def aC6 (x y : M.aE) : Bool := Op.bytesLess x.Site.toList y.Site.toList || ((x.Site.toList == y.Site.toList) && Op.bytesLess x.Top.toList y.Top.toList)
theorem aG3 (x y : M.aE) : xV x y.Site y.Top = some (aC6 x y) := by
  unfold xV aC6
  cases Op.bytesLess x.Site.toList y.Site.toList <;> cases (x.Site.toList == y.Site.toList) <;> simp
theorem aDH (x y : M.aE) : mA x y = some (aC6 x y) := by
  unfold mA aC6
  cases Op.bytesLess x.Site.toList y.Site.toList <;> cases (x.Site.toList == y.Site.toList) <;> simp
def aCR (l : List M.aE) (k : Nat) : Bool := (l[k]?).any aBR && (decide (k = 0) || (l[k - 1]?).any fun y => (l[k]?).any fun x => aC6 y x)
def aAg (s : M.aK) : Bool := (List.range s.Buckets.length).all (aCR s.Buckets) && decide ((s.Buckets.length : Int) ≤ 9)
theorem aEh {s : M.aK} (hs : s.ok) (hz : ∀ b ∈ s.Buckets, M.aE.sz b ≤ 1048576) : mP s = some (aAg s) := by
  have hm := le_max hs.Buckets.1
  unfold mP aAg
  rw [jJ (L := eZ s) (g := aCR s.Buckets) (F := some false) (E := some (decide ((s.Buckets.length : Int) ≤ 9))) hs.Buckets.1 (fun n k hk => ?_) (fun n => ?_), bL]
  · have hf := hs.Buckets.2 _ (List.getElem_mem hk)
    have hzb : M.aE.sz s.Buckets[k] ≤ 1048576 := hz _ (List.getElem_mem hk)
    simp only [eZ]
    rw [if_pos (bA hk), aN hk, Option.bind_some, bE (by omega), aGI hf hzb, Option.bind_some]
    unfold aCR
    rw [List.getElem?_eq_getElem hk]
    generalize eZ s n ((k + 1 : Nat) : Int) = Z
    by_cases h0 : k = 0
    · subst h0
      simp only [Option.any_some]
      cases aBR s.Buckets[0] <;> simp
    · have e : IntKind.i64.wrap ((k : Int) - 1) = ((k - 1 : Nat) : Int) := by rw [iG (by omega) (by omega)]; omega
      have hk1 : k - 1 < s.Buckets.length := by omega
      rw [if_pos (c := (decide ((k : Int) > 0)) = true) (by simp; omega), e, aN hk1, Option.bind_some, aG3, Option.bind_some, List.getElem?_eq_getElem hk1]
      simp only [Option.any_some, h0, decide_false, Bool.false_or]
      cases aBR s.Buckets[k] <;> cases aC6 s.Buckets[k - 1] s.Buckets[k] <;> simp
  · simp only [eZ]
    rw [if_neg (by rw [aO]; simp)]
theorem aFF {s : M.aK} (hs : s.ok) (hz : M.aK.sz s ≤ 1048576) : mP s = some (aAg s) := aEh hs (fun b hb => by
  have := dB (f := M.aE.sz) hb
  simp only [M.aK.sz] at hz
  omega)
theorem aEn {s : M.aK} (hs : s.ok) (hz : ∀ b ∈ s.Buckets, M.aE.sz b ≤ 1048576) : mV s = some (aAg s) := by
  have hm := le_max hs.Buckets.1
  unfold mV aAg
  rw [jJ (L := eW s) (g := aCR s.Buckets) (F := some false) (E := some (decide ((s.Buckets.length : Int) ≤ 9))) hs.Buckets.1 (fun n k hk => ?_) (fun n => ?_), bL]
  · have hf := hs.Buckets.2 _ (List.getElem_mem hk)
    have hzb : M.aE.sz s.Buckets[k] ≤ 1048576 := hz _ (List.getElem_mem hk)
    simp only [eW]
    rw [if_pos (bA hk), aN hk, Option.bind_some, bE (by omega), aFn hf hzb, Option.bind_some]
    unfold aCR
    rw [List.getElem?_eq_getElem hk]
    generalize eW s n ((k + 1 : Nat) : Int) = Z
    by_cases h0 : k = 0
    · subst h0
      simp only [Option.any_some]
      cases aBR s.Buckets[0] <;> simp
    · have e : IntKind.i64.wrap ((k : Int) - 1) = ((k - 1 : Nat) : Int) := by rw [iG (by omega) (by omega)]; omega
      have hk1 : k - 1 < s.Buckets.length := by omega
      rw [if_pos (c := (decide ((k : Int) > 0)) = true) (by simp; omega), e, aN hk1, Option.bind_some, aDH, Option.bind_some, List.getElem?_eq_getElem hk1]
      simp only [Option.any_some, h0, decide_false, Bool.false_or]
      cases aBR s.Buckets[k] <;> cases aC6 s.Buckets[k - 1] s.Buckets[k] <;> simp
  · simp only [eW]
    rw [if_neg (by rw [aO]; simp)]
theorem aFQ {s : M.aK} (hs : s.ok) (hz : M.aK.sz s ≤ 1048576) : mV s = some (aAg s) := aEn hs (fun b hb => by
  have := dB (f := M.aE.sz) hb
  simp only [M.aK.sz] at hz
  omega)
end Go.Proofs.YtecmnmaaopkdfaaGreat.gen
