/-
  Helper text. No conditions.
-/
import Derived.Test.YtecmnmaaopkdfaaGreatReleaseSiteMod
namespace Go.Proofs.YtecmnmaaopkdfaaGreat.gen
open Go Go.Sh
set_option linter.unusedVariables false
set_option linter.unusedSimpArgs false
structure M.Registration.ok (x : M.Registration) : Prop where
  Site : x.Site.size ≤ maxLen
  Installing : inI x.Installing
  Waiting : inI x.Waiting
  Active : inI x.Active
def M.Registration.sh : List Shp := [.str, .int .i64, .int .i64, .int .i64]
theorem M.Registration.cM (d : List D) (h : lV M.Registration.sh d) : ∃ x, d = M.Registration.en x ∧ M.Registration.ok x := by
  simp only [M.Registration.sh, lV, Has] at h
  obtain ⟨_, _, rfl, ⟨a1, rfl, w1⟩, _, _, rfl, ⟨a2, rfl, w2⟩, _, _, rfl, ⟨a3, rfl, w3⟩, _, _, rfl, ⟨a4, rfl, w4⟩, rfl⟩ := h
  exact ⟨⟨a1, a2, a3, a4⟩, rfl, ⟨w1, wf_i64 w2, wf_i64 w3, wf_i64 w4⟩⟩
def M.Registration.sz (x : M.Registration) : Nat := x.Site.size
theorem M.Registration.kO (x : M.Registration) (hx : M.Registration.ok x) : Sz (jG x) (M.Registration.sz x) := by
  intro l a b
  unfold jG M.Registration.sz
  exact (Sz.str hx.Site) l a b
theorem M.Registration.jM (x : M.Registration) (hx : M.Registration.ok x) (hs : M.Registration.sz x ≤ 1048576) : jH x = some x := by
  unfold M.Registration.sz at hs
  unfold jH
  rfl
theorem M.Registration.jK (x : M.Registration) (hx : M.Registration.ok x) : jF x x = some true := by
  simp [jF]
theorem M.aBm.kO (xs : List Int) (hx : okB xs) : Sz (tL xs) (xs.length) := by
  intro l a b
  unfold tL
  exact (Sz.str hx.1) l a b
theorem M.aBm.jM (xs : List Int) (hx : okB xs) (hs : xs.length ≤ 1048576) : tM xs = some xs := by
  have hm := le_max hx.1
  unfold tM
  rw [zO (by omega) (by omega), Option.bind_some]
  refine yQ hx.1 (fun n k r hk hr => ?_) (fun n r => ?_) fuel 0 _ (by unfold fuel; omega) (by omega) (by simp) (by simp)
  · simp only [lE]
    rw [if_pos (bA hk), aN hk, Option.bind_some, aN (by omega), Option.bind_some, bE (by omega), Int.toNat_natCast]
  · simp only [lE]
    rw [if_neg (by rw [aO]; simp)]
theorem M.aBm.jK (xs : List Int) (hx : okB xs) : tK xs xs = some true := by
  have hm := le_max hx.1
  unfold tK
  rw [if_neg (by simp)]
  refine yR hx.1 (fun n k hk => ?_) (fun n => ?_) fuel 0 (by unfold fuel; omega) (by omega)
  · simp only [lI]
    rw [if_pos (bA hk), aN hk]
    simp [bE (show k < 9223372036854775807 by omega)]
  · simp only [lI]
    rw [if_neg (by rw [aO]; simp)]
structure M.Response.ok (x : M.Response) : Prop where
  Type_ : inI x.Type_
  Status : inI x.Status
  Version : inI x.Version
  Body : okB x.Body
def M.Response.sh : List Shp := [.int .i64, .int .i64, .int .i64, .sl [.int .u8], .bool]
theorem M.Response.cM (d : List D) (h : lV M.Response.sh d) : ∃ x, d = M.Response.en x ∧ M.Response.ok x := by
  simp only [M.Response.sh, lV, Has] at h
  obtain ⟨_, _, rfl, ⟨a1, rfl, w1⟩, _, _, rfl, ⟨a2, rfl, w2⟩, _, _, rfl, ⟨a3, rfl, w3⟩, _, _, rfl, ⟨_, rfl, w4, q4⟩, _, _, rfl, ⟨a5, rfl⟩, rfl⟩ := h
  obtain ⟨a4, rfl, e4⟩ := bB aLo q4
  exact ⟨⟨a1, a2, a3, a4, a5⟩, rfl, ⟨wf_i64 w1, wf_i64 w2, wf_i64 w3, ⟨by simpa using w4, e4⟩⟩⟩
def M.Response.sz (x : M.Response) : Nat := x.Body.length
theorem M.Response.kO (x : M.Response) (hx : M.Response.ok x) : Sz (pR x) (M.Response.sz x) := by
  intro l a b
  unfold pR M.Response.sz
  exact (Sz.call (M.aBm.kO _ hx.Body)) l a b
theorem M.Response.jM (x : M.Response) (hx : M.Response.ok x) (hs : M.Response.sz x ≤ 1048576) : oZ x = some x := by
  unfold M.Response.sz at hs
  unfold oZ
  rw [M.aBm.jM _ hx.Body (by omega), Option.bind_some]
theorem M.Response.jK (x : M.Response) (hx : M.Response.ok x) : pV x x = some true := by
  simp [pV, M.aBm.jK _ hx.Body]
structure M.Cached.ok (x : M.Cached) : Prop where
  Site : x.Site.size ≤ maxLen
  Path : x.Path.size ≤ maxLen
  Response : M.Response.ok x.Response
def M.Cached.sh : List Shp := [.str, .str, .int .i64, .int .i64, .int .i64, .sl [.int .u8], .bool]
theorem M.Cached.cM (d : List D) (h : lV M.Cached.sh d) : ∃ x, d = M.Cached.en x ∧ M.Cached.ok x := by
  simp only [M.Cached.sh, lV, Has] at h
  obtain ⟨_, _, rfl, ⟨a1, rfl, w1⟩, _, _, rfl, ⟨a2, rfl, w2⟩, _, _, rfl, ⟨a3, rfl, w3⟩, _, _, rfl, ⟨a4, rfl, w4⟩, _, _, rfl, ⟨a5, rfl, w5⟩, _, _, rfl, ⟨_, rfl, w6, q6⟩, _, _, rfl, ⟨a7, rfl⟩, rfl⟩ := h
  obtain ⟨a6, rfl, e6⟩ := bB aLo q6
  exact ⟨⟨a1, a2, ⟨a3, a4, a5, a6, a7⟩⟩, rfl, ⟨w1, w2, ⟨wf_i64 w3, wf_i64 w4, wf_i64 w5, ⟨by simpa using w6, e6⟩⟩⟩⟩
def M.Cached.sz (x : M.Cached) : Nat := x.Site.size + (x.Path.size + (M.Response.sz x.Response))
theorem M.Cached.kO (x : M.Cached) (hx : M.Cached.ok x) : Sz (vO x) (M.Cached.sz x) := by
  intro l a b
  unfold vO M.Cached.sz
  exact (Sz.aBO hx.Site (Sz.aBO hx.Path (Sz.call (M.Response.kO _ hx.Response)))) l a b
theorem M.Cached.jM (x : M.Cached) (hx : M.Cached.ok x) (hs : M.Cached.sz x ≤ 1048576) : uV x = some x := by
  unfold M.Cached.sz at hs
  unfold uV
  rw [M.Response.jM _ hx.Response (by omega), Option.bind_some]
theorem M.Cached.jK (x : M.Cached) (hx : M.Cached.ok x) : uZ x x = some true := by
  simp [uZ, M.Response.jK _ hx.Response]
theorem M.aBp.kO (xs : List M.Cached) (hx : (xs.length ≤ maxLen ∧ ∀ y ∈ xs, M.Cached.ok y)) : Sz (sQ xs) ((xs.length + aD M.Cached.sz xs)) := by
  intro l a b
  unfold sQ
  exact (Sz.aDl hx.1 (fun x h => M.Cached.kO x (hx.2 x h)) (fun _ _ _ => rfl)) l a b
theorem M.aBp.jM (xs : List M.Cached) (hx : (xs.length ≤ maxLen ∧ ∀ y ∈ xs, M.Cached.ok y)) (hs : (xs.length + aD M.Cached.sz xs) ≤ 1048576) : sH xs = some xs := by
  have hm := le_max hx.1
  unfold sH
  rw [zO (by omega) (by omega), Option.bind_some]
  refine yQ hx.1 (fun n k r hk hr => ?_) (fun n r => ?_) fuel 0 _ (by unfold fuel; omega) (by omega) (by simp) (by simp)
  · simp only [iQ]
    rw [if_pos (bA hk), aN hk, Option.bind_some, M.Cached.jM _ (hx.2 _ (List.getElem_mem hk)) (by have := cO (f := M.Cached.sz) (List.getElem_mem hk); omega), Option.bind_some, aN (by omega), Option.bind_some, bE (by omega), Int.toNat_natCast]
  · simp only [iQ]
    rw [if_neg (by rw [aO]; simp)]
theorem M.aBp.jK (xs : List M.Cached) (hx : (xs.length ≤ maxLen ∧ ∀ y ∈ xs, M.Cached.ok y)) : sB xs xs = some true := by
  have hm := le_max hx.1
  unfold sB
  rw [if_neg (by simp)]
  refine yR hx.1 (fun n k hk => ?_) (fun n => ?_) fuel 0 (by unfold fuel; omega) (by omega)
  · simp only [iW]
    rw [if_pos (bA hk), aN hk]
    simp [bE (show k < 9223372036854775807 by omega), M.Cached.jK _ (hx.2 _ (List.getElem_mem hk))]
  · simp only [iW]
    rw [if_neg (by rw [aO]; simp)]
structure M.Cache.ok (x : M.Cache) : Prop where
  Version : inI x.Version
  Entries : (x.Entries.length ≤ maxLen ∧ ∀ y ∈ x.Entries, M.Cached.ok y)
def M.Cache.sh : List Shp := [.int .i64, .sl M.Cached.sh]
theorem M.Cache.cM (d : List D) (h : lV M.Cache.sh d) : ∃ x, d = M.Cache.en x ∧ M.Cache.ok x := by
  simp only [M.Cache.sh, lV, Has] at h
  obtain ⟨_, _, rfl, ⟨a1, rfl, w1⟩, _, _, rfl, ⟨_, rfl, w2, q2⟩, rfl⟩ := h
  obtain ⟨a2, rfl, e2⟩ := bB M.Cached.cM q2
  exact ⟨⟨a1, a2⟩, rfl, ⟨wf_i64 w1, ⟨by simpa using w2, e2⟩⟩⟩
def M.Cache.sz (x : M.Cache) : Nat := (x.Entries.length + aD M.Cached.sz x.Entries)
theorem M.Cache.kO (x : M.Cache) (hx : M.Cache.ok x) : Sz (xC x) (M.Cache.sz x) := by
  intro l a b
  unfold xC M.Cache.sz
  exact (Sz.call (M.aBp.kO _ hx.Entries)) l a b
theorem M.Cache.jM (x : M.Cache) (hx : M.Cache.ok x) (hs : M.Cache.sz x ≤ 1048576) : xH x = some x := by
  unfold M.Cache.sz at hs
  unfold xH
  rw [M.aBp.jM _ hx.Entries (by omega), Option.bind_some]
theorem M.Cache.jK (x : M.Cache) (hx : M.Cache.ok x) : wR x x = some true := by
  simp [wR, M.aBp.jK _ hx.Entries]
theorem M.aDU.kO (xs : List M.Cache) (hx : (xs.length ≤ maxLen ∧ ∀ y ∈ xs, M.Cache.ok y)) : Sz (vH xs) ((xs.length + aD M.Cache.sz xs)) := by
  intro l a b
  unfold vH
  exact (Sz.aDl hx.1 (fun x h => M.Cache.kO x (hx.2 x h)) (fun _ _ _ => rfl)) l a b
theorem M.aDU.jM (xs : List M.Cache) (hx : (xs.length ≤ maxLen ∧ ∀ y ∈ xs, M.Cache.ok y)) (hs : (xs.length + aD M.Cache.sz xs) ≤ 1048576) : vK xs = some xs := by
  have hm := le_max hx.1
  unfold vK
  rw [zO (by omega) (by omega), Option.bind_some]
  refine yQ hx.1 (fun n k r hk hr => ?_) (fun n r => ?_) fuel 0 _ (by unfold fuel; omega) (by omega) (by simp) (by simp)
  · simp only [jV]
    rw [if_pos (bA hk), aN hk, Option.bind_some, M.Cache.jM _ (hx.2 _ (List.getElem_mem hk)) (by have := cO (f := M.Cache.sz) (List.getElem_mem hk); omega), Option.bind_some, aN (by omega), Option.bind_some, bE (by omega), Int.toNat_natCast]
  · simp only [jV]
    rw [if_neg (by rw [aO]; simp)]
theorem M.aDU.jK (xs : List M.Cache) (hx : (xs.length ≤ maxLen ∧ ∀ y ∈ xs, M.Cache.ok y)) : uJ xs xs = some true := by
  have hm := le_max hx.1
  unfold uJ
  rw [if_neg (by simp)]
  refine yR hx.1 (fun n k hk => ?_) (fun n => ?_) fuel 0 (by unfold fuel; omega) (by omega)
  · simp only [jZ]
    rw [if_pos (bA hk), aN hk]
    simp [bE (show k < 9223372036854775807 by omega), M.Cache.jK _ (hx.2 _ (List.getElem_mem hk))]
  · simp only [jZ]
    rw [if_neg (by rw [aO]; simp)]
structure M.aT.ok (x : M.aT) : Prop where
  Caches : (x.Caches.length ≤ maxLen ∧ ∀ y ∈ x.Caches, M.Cache.ok y)
def M.aT.sh : List Shp := [.sl M.Cache.sh]
theorem M.aT.cM (d : List D) (h : lV M.aT.sh d) : ∃ x, d = M.aT.en x ∧ M.aT.ok x := by
  simp only [M.aT.sh, lV, Has] at h
  obtain ⟨_, _, rfl, ⟨_, rfl, w1, q1⟩, rfl⟩ := h
  obtain ⟨a1, rfl, e1⟩ := bB M.Cache.cM q1
  exact ⟨⟨a1⟩, rfl, ⟨⟨by simpa using w1, e1⟩⟩⟩
def M.aT.sz (x : M.aT) : Nat := (x.Caches.length + aD M.Cache.sz x.Caches)
theorem M.aT.kO (x : M.aT) (hx : M.aT.ok x) : Sz (oR x) (M.aT.sz x) := by
  intro l a b
  unfold oR M.aT.sz
  exact (Sz.call (M.aDU.kO _ hx.Caches)) l a b
theorem M.aT.jM (x : M.aT) (hx : M.aT.ok x) (hs : M.aT.sz x ≤ 1048576) : qL x = some x := by
  unfold M.aT.sz at hs
  unfold qL
  rw [M.aDU.jM _ hx.Caches (by omega), Option.bind_some]
theorem M.aT.jK (x : M.aT) (hx : M.aT.ok x) : pC x x = some true := by
  simp [pC, M.aDU.jK _ hx.Caches]
structure M.Key.ok (x : M.Key) : Prop where
  Kind : inI x.Kind
  N : inI x.N
  Text : x.Text.size ≤ maxLen
def M.Key.sh : List Shp := [.int .i64, .int .i64, .str]
theorem M.Key.cM (d : List D) (h : lV M.Key.sh d) : ∃ x, d = M.Key.en x ∧ M.Key.ok x := by
  simp only [M.Key.sh, lV, Has] at h
  obtain ⟨_, _, rfl, ⟨a1, rfl, w1⟩, _, _, rfl, ⟨a2, rfl, w2⟩, _, _, rfl, ⟨a3, rfl, w3⟩, rfl⟩ := h
  exact ⟨⟨a1, a2, a3⟩, rfl, ⟨wf_i64 w1, wf_i64 w2, w3⟩⟩
def M.Key.sz (x : M.Key) : Nat := x.Text.size
theorem M.Key.kO (x : M.Key) (hx : M.Key.ok x) : Sz (yO x) (M.Key.sz x) := by
  intro l a b
  unfold yO M.Key.sz
  exact (Sz.str hx.Text) l a b
theorem M.Key.jM (x : M.Key) (hx : M.Key.ok x) (hs : M.Key.sz x ≤ 1048576) : yP x = some x := by
  unfold M.Key.sz at hs
  unfold yP
  rfl
theorem M.Key.jK (x : M.Key) (hx : M.Key.ok x) : yU x x = some true := by
  simp [yU]
structure M.Field.ok (x : M.Field) : Prop where
  Name : x.Name.size ≤ maxLen
  N : inI x.N
def M.Field.sh : List Shp := [.str, .int .i64]
theorem M.Field.cM (d : List D) (h : lV M.Field.sh d) : ∃ x, d = M.Field.en x ∧ M.Field.ok x := by
  simp only [M.Field.sh, lV, Has] at h
  obtain ⟨_, _, rfl, ⟨a1, rfl, w1⟩, _, _, rfl, ⟨a2, rfl, w2⟩, rfl⟩ := h
  exact ⟨⟨a1, a2⟩, rfl, ⟨w1, wf_i64 w2⟩⟩
def M.Field.sz (x : M.Field) : Nat := x.Name.size
theorem M.Field.kO (x : M.Field) (hx : M.Field.ok x) : Sz (yB x) (M.Field.sz x) := by
  intro l a b
  unfold yB M.Field.sz
  exact (Sz.str hx.Name) l a b
theorem M.Field.jM (x : M.Field) (hx : M.Field.ok x) (hs : M.Field.sz x ≤ 1048576) : yM x = some x := by
  unfold M.Field.sz at hs
  unfold yM
  rfl
theorem M.Field.jK (x : M.Field) (hx : M.Field.ok x) : xF x x = some true := by
  simp [xF]
theorem M.aDi.kO (xs : List M.Field) (hx : (xs.length ≤ maxLen ∧ ∀ y ∈ xs, M.Field.ok y)) : Sz (vT xs) ((xs.length + aD M.Field.sz xs)) := by
  intro l a b
  unfold vT
  exact (Sz.aDl hx.1 (fun x h => M.Field.kO x (hx.2 x h)) (fun _ _ _ => rfl)) l a b
theorem M.aDi.jM (xs : List M.Field) (hx : (xs.length ≤ maxLen ∧ ∀ y ∈ xs, M.Field.ok y)) (hs : (xs.length + aD M.Field.sz xs) ≤ 1048576) : uF xs = some xs := by
  have hm := le_max hx.1
  unfold uF
  rw [zO (by omega) (by omega), Option.bind_some]
  refine yQ hx.1 (fun n k r hk hr => ?_) (fun n r => ?_) fuel 0 _ (by unfold fuel; omega) (by omega) (by simp) (by simp)
  · simp only [jU]
    rw [if_pos (bA hk), aN hk, Option.bind_some, M.Field.jM _ (hx.2 _ (List.getElem_mem hk)) (by have := cO (f := M.Field.sz) (List.getElem_mem hk); omega), Option.bind_some, aN (by omega), Option.bind_some, bE (by omega), Int.toNat_natCast]
  · simp only [jU]
    rw [if_neg (by rw [aO]; simp)]
theorem M.aDi.jK (xs : List M.Field) (hx : (xs.length ≤ maxLen ∧ ∀ y ∈ xs, M.Field.ok y)) : uR xs xs = some true := by
  have hm := le_max hx.1
  unfold uR
  rw [if_neg (by simp)]
  refine yR hx.1 (fun n k hk => ?_) (fun n => ?_) fuel 0 (by unfold fuel; omega) (by omega)
  · simp only [jS]
    rw [if_pos (bA hk), aN hk]
    simp [bE (show k < 9223372036854775807 by omega), M.Field.jK _ (hx.2 _ (List.getElem_mem hk))]
  · simp only [jS]
    rw [if_neg (by rw [aO]; simp)]
structure M.aU.ok (x : M.aU) : Prop where
  Fields : (x.Fields.length ≤ maxLen ∧ ∀ y ∈ x.Fields, M.Field.ok y)
def M.aU.sh : List Shp := [.sl M.Field.sh]
theorem M.aU.cM (d : List D) (h : lV M.aU.sh d) : ∃ x, d = M.aU.en x ∧ M.aU.ok x := by
  simp only [M.aU.sh, lV, Has] at h
  obtain ⟨_, _, rfl, ⟨_, rfl, w1, q1⟩, rfl⟩ := h
  obtain ⟨a1, rfl, e1⟩ := bB M.Field.cM q1
  exact ⟨⟨a1⟩, rfl, ⟨⟨by simpa using w1, e1⟩⟩⟩
def M.aU.sz (x : M.aU) : Nat := (x.Fields.length + aD M.Field.sz x.Fields)
theorem M.aU.kO (x : M.aU) (hx : M.aU.ok x) : Sz (vE x) (M.aU.sz x) := by
  intro l a b
  unfold vE M.aU.sz
  exact (Sz.call (M.aDi.kO _ hx.Fields)) l a b
theorem M.aU.jM (x : M.aU) (hx : M.aU.ok x) (hs : M.aU.sz x ≤ 1048576) : uI x = some x := by
  unfold M.aU.sz at hs
  unfold uI
  rw [M.aDi.jM _ hx.Fields (by omega), Option.bind_some]
theorem M.aU.jK (x : M.aU) (hx : M.aU.ok x) : uH x x = some true := by
  simp [uH, M.aDi.jK _ hx.Fields]
structure M.Item.ok (x : M.Item) : Prop where
  Key : M.Key.ok x.Key
  aU : M.aU.ok x.aU
def M.Item.sh : List Shp := [.int .i64, .int .i64, .str, .sl M.Field.sh]
theorem M.Item.cM (d : List D) (h : lV M.Item.sh d) : ∃ x, d = M.Item.en x ∧ M.Item.ok x := by
  simp only [M.Item.sh, lV, Has] at h
  obtain ⟨_, _, rfl, ⟨a1, rfl, w1⟩, _, _, rfl, ⟨a2, rfl, w2⟩, _, _, rfl, ⟨a3, rfl, w3⟩, _, _, rfl, ⟨_, rfl, w4, q4⟩, rfl⟩ := h
  obtain ⟨a4, rfl, e4⟩ := bB M.Field.cM q4
  exact ⟨⟨⟨a1, a2, a3⟩, ⟨a4⟩⟩, rfl, ⟨⟨wf_i64 w1, wf_i64 w2, w3⟩, ⟨⟨by simpa using w4, e4⟩⟩⟩⟩
def M.Item.sz (x : M.Item) : Nat := M.Key.sz x.Key + (M.aU.sz x.aU)
theorem M.Item.kO (x : M.Item) (hx : M.Item.ok x) : Sz (aAN x) (M.Item.sz x) := by
  intro l a b
  unfold aAN M.Item.sz
  exact (Sz.qR (M.Key.kO _ hx.Key) (Sz.call (M.aU.kO _ hx.aU))) l a b
theorem M.Item.jM (x : M.Item) (hx : M.Item.ok x) (hs : M.Item.sz x ≤ 1048576) : aAV x = some x := by
  unfold M.Item.sz at hs
  unfold aAV
  rw [M.Key.jM _ hx.Key (by omega), Option.bind_some, M.aU.jM _ hx.aU (by omega), Option.bind_some]
theorem M.Item.jK (x : M.Item) (hx : M.Item.ok x) : zT x x = some true := by
  simp [zT, M.Key.jK _ hx.Key, M.aU.jK _ hx.aU]
theorem M.aEH.kO (xs : List M.Item) (hx : (xs.length ≤ maxLen ∧ ∀ y ∈ xs, M.Item.ok y)) : Sz (xZ xs) ((xs.length + aD M.Item.sz xs)) := by
  intro l a b
  unfold xZ
  exact (Sz.aDl hx.1 (fun x h => M.Item.kO x (hx.2 x h)) (fun _ _ _ => rfl)) l a b
theorem M.aEH.jM (xs : List M.Item) (hx : (xs.length ≤ maxLen ∧ ∀ y ∈ xs, M.Item.ok y)) (hs : (xs.length + aD M.Item.sz xs) ≤ 1048576) : yI xs = some xs := by
  have hm := le_max hx.1
  unfold yI
  rw [zO (by omega) (by omega), Option.bind_some]
  refine yQ hx.1 (fun n k r hk hr => ?_) (fun n r => ?_) fuel 0 _ (by unfold fuel; omega) (by omega) (by simp) (by simp)
  · simp only [kZ]
    rw [if_pos (bA hk), aN hk, Option.bind_some, M.Item.jM _ (hx.2 _ (List.getElem_mem hk)) (by have := cO (f := M.Item.sz) (List.getElem_mem hk); omega), Option.bind_some, aN (by omega), Option.bind_some, bE (by omega), Int.toNat_natCast]
  · simp only [kZ]
    rw [if_neg (by rw [aO]; simp)]
theorem M.aEH.jK (xs : List M.Item) (hx : (xs.length ≤ maxLen ∧ ∀ y ∈ xs, M.Item.ok y)) : wP xs xs = some true := by
  have hm := le_max hx.1
  unfold wP
  rw [if_neg (by simp)]
  refine yR hx.1 (fun n k hk => ?_) (fun n => ?_) fuel 0 (by unfold fuel; omega) (by omega)
  · simp only [kW]
    rw [if_pos (bA hk), aN hk]
    simp [bE (show k < 9223372036854775807 by omega), M.Item.jK _ (hx.2 _ (List.getElem_mem hk))]
  · simp only [kW]
    rw [if_neg (by rw [aO]; simp)]
structure M.aH.ok (x : M.aH) : Prop where
  Name : x.Name.size ≤ maxLen
  Items : (x.Items.length ≤ maxLen ∧ ∀ y ∈ x.Items, M.Item.ok y)
  Auto : inI x.Auto
def M.aH.sh : List Shp := [.str, .sl M.Item.sh, .int .i64]
theorem M.aH.cM (d : List D) (h : lV M.aH.sh d) : ∃ x, d = M.aH.en x ∧ M.aH.ok x := by
  simp only [M.aH.sh, lV, Has] at h
  obtain ⟨_, _, rfl, ⟨a1, rfl, w1⟩, _, _, rfl, ⟨_, rfl, w2, q2⟩, _, _, rfl, ⟨a3, rfl, w3⟩, rfl⟩ := h
  obtain ⟨a2, rfl, e2⟩ := bB M.Item.cM q2
  exact ⟨⟨a1, a2, a3⟩, rfl, ⟨w1, ⟨by simpa using w2, e2⟩, wf_i64 w3⟩⟩
def M.aH.sz (x : M.aH) : Nat := x.Name.size + ((x.Items.length + aD M.Item.sz x.Items))
theorem M.aH.kO (x : M.aH) (hx : M.aH.ok x) : Sz (oE x) (M.aH.sz x) := by
  intro l a b
  unfold oE M.aH.sz
  exact (Sz.aBO hx.Name (Sz.call (M.aEH.kO _ hx.Items))) l a b
theorem M.aH.jM (x : M.aH) (hx : M.aH.ok x) (hs : M.aH.sz x ≤ 1048576) : oD x = some x := by
  unfold M.aH.sz at hs
  unfold oD
  rw [M.aEH.jM _ hx.Items (by omega), Option.bind_some]
theorem M.aH.jK (x : M.aH) (hx : M.aH.ok x) : oF x x = some true := by
  simp [oF, M.aEH.jK _ hx.Items]
theorem M.aDw.kO (xs : List M.aH) (hx : (xs.length ≤ maxLen ∧ ∀ y ∈ xs, M.aH.ok y)) : Sz (vA xs) ((xs.length + aD M.aH.sz xs)) := by
  intro l a b
  unfold vA
  exact (Sz.aDl hx.1 (fun x h => M.aH.kO x (hx.2 x h)) (fun _ _ _ => rfl)) l a b
theorem M.aDw.jM (xs : List M.aH) (hx : (xs.length ≤ maxLen ∧ ∀ y ∈ xs, M.aH.ok y)) (hs : (xs.length + aD M.aH.sz xs) ≤ 1048576) : uU xs = some xs := by
  have hm := le_max hx.1
  unfold uU
  rw [zO (by omega) (by omega), Option.bind_some]
  refine yQ hx.1 (fun n k r hk hr => ?_) (fun n r => ?_) fuel 0 _ (by unfold fuel; omega) (by omega) (by simp) (by simp)
  · simp only [kA]
    rw [if_pos (bA hk), aN hk, Option.bind_some, M.aH.jM _ (hx.2 _ (List.getElem_mem hk)) (by have := cO (f := M.aH.sz) (List.getElem_mem hk); omega), Option.bind_some, aN (by omega), Option.bind_some, bE (by omega), Int.toNat_natCast]
  · simp only [kA]
    rw [if_neg (by rw [aO]; simp)]
theorem M.aDw.jK (xs : List M.aH) (hx : (xs.length ≤ maxLen ∧ ∀ y ∈ xs, M.aH.ok y)) : vV xs xs = some true := by
  have hm := le_max hx.1
  unfold vV
  rw [if_neg (by simp)]
  refine yR hx.1 (fun n k hk => ?_) (fun n => ?_) fuel 0 (by unfold fuel; omega) (by omega)
  · simp only [jX]
    rw [if_pos (bA hk), aN hk]
    simp [bE (show k < 9223372036854775807 by omega), M.aH.jK _ (hx.2 _ (List.getElem_mem hk))]
  · simp only [jX]
    rw [if_neg (by rw [aO]; simp)]
structure M.aA.ok (x : M.aA) : Prop where
  aH : x.aH.size ≤ maxLen
  Field : x.Field.size ≤ maxLen
def M.aA.sh : List Shp := [.str, .str]
theorem M.aA.cM (d : List D) (h : lV M.aA.sh d) : ∃ x, d = M.aA.en x ∧ M.aA.ok x := by
  simp only [M.aA.sh, lV, Has] at h
  obtain ⟨_, _, rfl, ⟨a1, rfl, w1⟩, _, _, rfl, ⟨a2, rfl, w2⟩, rfl⟩ := h
  exact ⟨⟨a1, a2⟩, rfl, ⟨w1, w2⟩⟩
def M.aA.sz (x : M.aA) : Nat := x.aH.size + (x.Field.size)
theorem M.aA.kO (x : M.aA) (hx : M.aA.ok x) : Sz (qF x) (M.aA.sz x) := by
  intro l a b
  unfold qF M.aA.sz
  exact (Sz.aBO hx.aH (Sz.str hx.Field)) l a b
theorem M.aA.jM (x : M.aA) (hx : M.aA.ok x) (hs : M.aA.sz x ≤ 1048576) : pM x = some x := by
  unfold M.aA.sz at hs
  unfold pM
  rfl
theorem M.aA.jK (x : M.aA) (hx : M.aA.ok x) : pT x x = some true := by
  simp [pT]
theorem M.zS.kO (xs : List M.aA) (hx : (xs.length ≤ maxLen ∧ ∀ y ∈ xs, M.aA.ok y)) : Sz (nM xs) ((xs.length + aD M.aA.sz xs)) := by
  intro l a b
  unfold nM
  exact (Sz.aDl hx.1 (fun x h => M.aA.kO x (hx.2 x h)) (fun _ _ _ => rfl)) l a b
theorem M.zS.jM (xs : List M.aA) (hx : (xs.length ≤ maxLen ∧ ∀ y ∈ xs, M.aA.ok y)) (hs : (xs.length + aD M.aA.sz xs) ≤ 1048576) : nR xs = some xs := by
  have hm := le_max hx.1
  unfold nR
  rw [zO (by omega) (by omega), Option.bind_some]
  refine yQ hx.1 (fun n k r hk hr => ?_) (fun n r => ?_) fuel 0 _ (by unfold fuel; omega) (by omega) (by simp) (by simp)
  · simp only [hM]
    rw [if_pos (bA hk), aN hk, Option.bind_some, M.aA.jM _ (hx.2 _ (List.getElem_mem hk)) (by have := cO (f := M.aA.sz) (List.getElem_mem hk); omega), Option.bind_some, aN (by omega), Option.bind_some, bE (by omega), Int.toNat_natCast]
  · simp only [hM]
    rw [if_neg (by rw [aO]; simp)]
theorem M.zS.jK (xs : List M.aA) (hx : (xs.length ≤ maxLen ∧ ∀ y ∈ xs, M.aA.ok y)) : mV xs xs = some true := by
  have hm := le_max hx.1
  unfold mV
  rw [if_neg (by simp)]
  refine yR hx.1 (fun n k hk => ?_) (fun n => ?_) fuel 0 (by unfold fuel; omega) (by omega)
  · simp only [hZ]
    rw [if_pos (bA hk), aN hk]
    simp [bE (show k < 9223372036854775807 by omega), M.aA.jK _ (hx.2 _ (List.getElem_mem hk))]
  · simp only [hZ]
    rw [if_neg (by rw [aO]; simp)]
structure M.Database.ok (x : M.Database) : Prop where
  Name : x.Name.size ≤ maxLen
  Version : inI x.Version
  Stores : (x.Stores.length ≤ maxLen ∧ ∀ y ∈ x.Stores, M.aH.ok y)
  Unique : (x.Unique.length ≤ maxLen ∧ ∀ y ∈ x.Unique, M.aA.ok y)
def M.Database.sh : List Shp := [.str, .int .i64, .sl M.aH.sh, .sl M.aA.sh]
theorem M.Database.cM (d : List D) (h : lV M.Database.sh d) : ∃ x, d = M.Database.en x ∧ M.Database.ok x := by
  simp only [M.Database.sh, lV, Has] at h
  obtain ⟨_, _, rfl, ⟨a1, rfl, w1⟩, _, _, rfl, ⟨a2, rfl, w2⟩, _, _, rfl, ⟨_, rfl, w3, q3⟩, _, _, rfl, ⟨_, rfl, w4, q4⟩, rfl⟩ := h
  obtain ⟨a3, rfl, e3⟩ := bB M.aH.cM q3
  obtain ⟨a4, rfl, e4⟩ := bB M.aA.cM q4
  exact ⟨⟨a1, a2, a3, a4⟩, rfl, ⟨w1, wf_i64 w2, ⟨by simpa using w3, e3⟩, ⟨by simpa using w4, e4⟩⟩⟩
def M.Database.sz (x : M.Database) : Nat := x.Name.size + ((x.Stores.length + aD M.aH.sz x.Stores) + ((x.Unique.length + aD M.aA.sz x.Unique)))
theorem M.Database.kO (x : M.Database) (hx : M.Database.ok x) : Sz (pA x) (M.Database.sz x) := by
  intro l a b
  unfold pA M.Database.sz
  exact (Sz.aBO hx.Name (Sz.qR (M.aDw.kO _ hx.Stores) (Sz.call (M.zS.kO _ hx.Unique)))) l a b
theorem M.Database.jM (x : M.Database) (hx : M.Database.ok x) (hs : M.Database.sz x ≤ 1048576) : qI x = some x := by
  unfold M.Database.sz at hs
  unfold qI
  rw [M.aDw.jM _ hx.Stores (by omega), Option.bind_some, M.zS.jM _ hx.Unique (by omega), Option.bind_some]
theorem M.Database.jK (x : M.Database) (hx : M.Database.ok x) : pU x x = some true := by
  simp [pU, M.aDw.jK _ hx.Stores, M.zS.jK _ hx.Unique]
structure M.bC.ok (x : M.bC) : Prop where
  Base : M.Database.ok x.Base
  Log : okB x.Log
  Count : inI x.Count
def M.bC.sh : List Shp := [.str, .int .i64, .sl M.aH.sh, .sl M.aA.sh, .sl [.int .u8], .int .i64]
theorem M.bC.cM (d : List D) (h : lV M.bC.sh d) : ∃ x, d = M.bC.en x ∧ M.bC.ok x := by
  simp only [M.bC.sh, lV, Has] at h
  obtain ⟨_, _, rfl, ⟨a1, rfl, w1⟩, _, _, rfl, ⟨a2, rfl, w2⟩, _, _, rfl, ⟨_, rfl, w3, q3⟩, _, _, rfl, ⟨_, rfl, w4, q4⟩, _, _, rfl, ⟨_, rfl, w5, q5⟩, _, _, rfl, ⟨a6, rfl, w6⟩, rfl⟩ := h
  obtain ⟨a3, rfl, e3⟩ := bB M.aH.cM q3
  obtain ⟨a4, rfl, e4⟩ := bB M.aA.cM q4
  obtain ⟨a5, rfl, e5⟩ := bB aLo q5
  exact ⟨⟨⟨a1, a2, a3, a4⟩, a5, a6⟩, rfl, ⟨⟨w1, wf_i64 w2, ⟨by simpa using w3, e3⟩, ⟨by simpa using w4, e4⟩⟩, ⟨by simpa using w5, e5⟩, wf_i64 w6⟩⟩
def M.bC.sz (x : M.bC) : Nat := M.Database.sz x.Base + (x.Log.length)
theorem M.bC.kO (x : M.bC) (hx : M.bC.ok x) : Sz (zL x) (M.bC.sz x) := by
  intro l a b
  unfold zL M.bC.sz
  exact (Sz.qR (M.Database.kO _ hx.Base) (Sz.call (M.aBm.kO _ hx.Log))) l a b
theorem M.bC.jM (x : M.bC) (hx : M.bC.ok x) (hs : M.bC.sz x ≤ 1048576) : aAC x = some x := by
  unfold M.bC.sz at hs
  unfold aAC
  rw [M.Database.jM _ hx.Base (by omega), Option.bind_some, M.aBm.jM _ hx.Log (by omega), Option.bind_some]
theorem M.bC.jK (x : M.bC) (hx : M.bC.ok x) : aAR x x = some true := by
  simp [aAR, M.Database.jK _ hx.Base, M.aBm.jK _ hx.Log]
structure M.aW.ok (x : M.aW) : Prop where
  Device : inI x.Device
  Seq : inI x.Seq
  Key : M.Key.ok x.Key
  Field : x.Field.size ≤ maxLen
  N : inI x.N
def M.aW.sh : List Shp := [.int .i64, .int .i64, .int .i64, .int .i64, .str, .str, .int .i64]
theorem M.aW.cM (d : List D) (h : lV M.aW.sh d) : ∃ x, d = M.aW.en x ∧ M.aW.ok x := by
  simp only [M.aW.sh, lV, Has] at h
  obtain ⟨_, _, rfl, ⟨a1, rfl, w1⟩, _, _, rfl, ⟨a2, rfl, w2⟩, _, _, rfl, ⟨a3, rfl, w3⟩, _, _, rfl, ⟨a4, rfl, w4⟩, _, _, rfl, ⟨a5, rfl, w5⟩, _, _, rfl, ⟨a6, rfl, w6⟩, _, _, rfl, ⟨a7, rfl, w7⟩, rfl⟩ := h
  exact ⟨⟨a1, a2, ⟨a3, a4, a5⟩, a6, a7⟩, rfl, ⟨wf_i64 w1, wf_i64 w2, ⟨wf_i64 w3, wf_i64 w4, w5⟩, w6, wf_i64 w7⟩⟩
def M.aW.sz (x : M.aW) : Nat := M.Key.sz x.Key + (x.Field.size)
theorem M.aW.kO (x : M.aW) (hx : M.aW.ok x) : Sz (xQ x) (M.aW.sz x) := by
  intro l a b
  unfold xQ M.aW.sz
  exact (Sz.qR (M.Key.kO _ hx.Key) (Sz.str hx.Field)) l a b
theorem M.aW.jM (x : M.aW) (hx : M.aW.ok x) (hs : M.aW.sz x ≤ 1048576) : xM x = some x := by
  unfold M.aW.sz at hs
  unfold xM
  rw [M.Key.jM _ hx.Key (by omega), Option.bind_some]
theorem M.aW.jK (x : M.aW) (hx : M.aW.ok x) : wQ x x = some true := by
  simp [wQ, M.Key.jK _ hx.Key]
theorem M.aBT.kO (xs : List M.aW) (hx : (xs.length ≤ maxLen ∧ ∀ y ∈ xs, M.aW.ok y)) : Sz (oN xs) ((xs.length + aD M.aW.sz xs)) := by
  intro l a b
  unfold oN
  exact (Sz.aDl hx.1 (fun x h => M.aW.kO x (hx.2 x h)) (fun _ _ _ => rfl)) l a b
theorem M.aBT.jM (xs : List M.aW) (hx : (xs.length ≤ maxLen ∧ ∀ y ∈ xs, M.aW.ok y)) (hs : (xs.length + aD M.aW.sz xs) ≤ 1048576) : oS xs = some xs := by
  have hm := le_max hx.1
  unfold oS
  rw [zO (by omega) (by omega), Option.bind_some]
  refine yQ hx.1 (fun n k r hk hr => ?_) (fun n r => ?_) fuel 0 _ (by unfold fuel; omega) (by omega) (by simp) (by simp)
  · simp only [jN]
    rw [if_pos (bA hk), aN hk, Option.bind_some, M.aW.jM _ (hx.2 _ (List.getElem_mem hk)) (by have := cO (f := M.aW.sz) (List.getElem_mem hk); omega), Option.bind_some, aN (by omega), Option.bind_some, bE (by omega), Int.toNat_natCast]
  · simp only [jN]
    rw [if_neg (by rw [aO]; simp)]
theorem M.aBT.jK (xs : List M.aW) (hx : (xs.length ≤ maxLen ∧ ∀ y ∈ xs, M.aW.ok y)) : pW xs xs = some true := by
  have hm := le_max hx.1
  unfold pW
  rw [if_neg (by simp)]
  refine yR hx.1 (fun n k hk => ?_) (fun n => ?_) fuel 0 (by unfold fuel; omega) (by omega)
  · simp only [jP]
    rw [if_pos (bA hk), aN hk]
    simp [bE (show k < 9223372036854775807 by omega), M.aW.jK _ (hx.2 _ (List.getElem_mem hk))]
  · simp only [jP]
    rw [if_neg (by rw [aO]; simp)]
structure M.aV.ok (x : M.aV) : Prop where
  Device : inI x.Device
  Next : inI x.Next
  Writes : (x.Writes.length ≤ maxLen ∧ ∀ y ∈ x.Writes, M.aW.ok y)
def M.aV.sh : List Shp := [.int .i64, .int .i64, .sl M.aW.sh]
theorem M.aV.cM (d : List D) (h : lV M.aV.sh d) : ∃ x, d = M.aV.en x ∧ M.aV.ok x := by
  simp only [M.aV.sh, lV, Has] at h
  obtain ⟨_, _, rfl, ⟨a1, rfl, w1⟩, _, _, rfl, ⟨a2, rfl, w2⟩, _, _, rfl, ⟨_, rfl, w3, q3⟩, rfl⟩ := h
  obtain ⟨a3, rfl, e3⟩ := bB M.aW.cM q3
  exact ⟨⟨a1, a2, a3⟩, rfl, ⟨wf_i64 w1, wf_i64 w2, ⟨by simpa using w3, e3⟩⟩⟩
def M.aV.sz (x : M.aV) : Nat := (x.Writes.length + aD M.aW.sz x.Writes)
theorem M.aV.kO (x : M.aV) (hx : M.aV.ok x) : Sz (uX x) (M.aV.sz x) := by
  intro l a b
  unfold uX M.aV.sz
  exact (Sz.call (M.aBT.kO _ hx.Writes)) l a b
theorem M.aV.jM (x : M.aV) (hx : M.aV.ok x) (hs : M.aV.sz x ≤ 1048576) : uD x = some x := by
  unfold M.aV.sz at hs
  unfold uD
  rw [M.aBT.jM _ hx.Writes (by omega), Option.bind_some]
theorem M.aV.jK (x : M.aV) (hx : M.aV.ok x) : uN x x = some true := by
  simp [uN, M.aBT.jK _ hx.Writes]
structure M.Sync.ok (x : M.Sync) : Prop where
  aV : M.aV.ok x.aV
  Tries : inI x.Tries
  WaitUntil : inI x.WaitUntil
def M.Sync.sh : List Shp := [.int .i64, .int .i64, .sl M.aW.sh, .int .i64, .int .i64]
theorem M.Sync.cM (d : List D) (h : lV M.Sync.sh d) : ∃ x, d = M.Sync.en x ∧ M.Sync.ok x := by
  simp only [M.Sync.sh, lV, Has] at h
  obtain ⟨_, _, rfl, ⟨a1, rfl, w1⟩, _, _, rfl, ⟨a2, rfl, w2⟩, _, _, rfl, ⟨_, rfl, w3, q3⟩, _, _, rfl, ⟨a4, rfl, w4⟩, _, _, rfl, ⟨a5, rfl, w5⟩, rfl⟩ := h
  obtain ⟨a3, rfl, e3⟩ := bB M.aW.cM q3
  exact ⟨⟨⟨a1, a2, a3⟩, a4, a5⟩, rfl, ⟨⟨wf_i64 w1, wf_i64 w2, ⟨by simpa using w3, e3⟩⟩, wf_i64 w4, wf_i64 w5⟩⟩
def M.Sync.sz (x : M.Sync) : Nat := M.aV.sz x.aV
theorem M.Sync.kO (x : M.Sync) (hx : M.Sync.ok x) : Sz (aAH x) (M.Sync.sz x) := by
  intro l a b
  unfold aAH M.Sync.sz
  exact (Sz.call (M.aV.kO _ hx.aV)) l a b
theorem M.Sync.jM (x : M.Sync) (hx : M.Sync.ok x) (hs : M.Sync.sz x ≤ 1048576) : aAA x = some x := by
  unfold M.Sync.sz at hs
  unfold aAA
  rw [M.aV.jM _ hx.aV (by omega), Option.bind_some]
theorem M.Sync.jK (x : M.Sync) (hx : M.Sync.ok x) : zH x x = some true := by
  simp [zH, M.aV.jK _ hx.aV]
structure M.aC.ok (x : M.aC) : Prop where
  Base : M.aH.ok x.Base
  Seen : inI x.Seen
  Sync : M.Sync.ok x.Sync
def M.aC.sh : List Shp := [.str, .sl M.Item.sh, .int .i64, .int .i64, .int .i64, .int .i64, .sl M.aW.sh, .int .i64, .int .i64]
theorem M.aC.cM (d : List D) (h : lV M.aC.sh d) : ∃ x, d = M.aC.en x ∧ M.aC.ok x := by
  simp only [M.aC.sh, lV, Has] at h
  obtain ⟨_, _, rfl, ⟨a1, rfl, w1⟩, _, _, rfl, ⟨_, rfl, w2, q2⟩, _, _, rfl, ⟨a3, rfl, w3⟩, _, _, rfl, ⟨a4, rfl, w4⟩, _, _, rfl, ⟨a5, rfl, w5⟩, _, _, rfl, ⟨a6, rfl, w6⟩, _, _, rfl, ⟨_, rfl, w7, q7⟩, _, _, rfl, ⟨a8, rfl, w8⟩, _, _, rfl, ⟨a9, rfl, w9⟩, rfl⟩ := h
  obtain ⟨a2, rfl, e2⟩ := bB M.Item.cM q2
  obtain ⟨a7, rfl, e7⟩ := bB M.aW.cM q7
  exact ⟨⟨⟨a1, a2, a3⟩, a4, ⟨⟨a5, a6, a7⟩, a8, a9⟩⟩, rfl, ⟨⟨w1, ⟨by simpa using w2, e2⟩, wf_i64 w3⟩, wf_i64 w4, ⟨⟨wf_i64 w5, wf_i64 w6, ⟨by simpa using w7, e7⟩⟩, wf_i64 w8, wf_i64 w9⟩⟩⟩
def M.aC.sz (x : M.aC) : Nat := M.aH.sz x.Base + (M.Sync.sz x.Sync)
theorem M.aC.kO (x : M.aC) (hx : M.aC.ok x) : Sz (tI x) (M.aC.sz x) := by
  intro l a b
  unfold tI M.aC.sz
  exact (Sz.qR (M.aH.kO _ hx.Base) (Sz.call (M.Sync.kO _ hx.Sync))) l a b
theorem M.aC.jM (x : M.aC) (hx : M.aC.ok x) (hs : M.aC.sz x ≤ 1048576) : rJ x = some x := by
  unfold M.aC.sz at hs
  unfold rJ
  rw [M.aH.jM _ hx.Base (by omega), Option.bind_some, M.Sync.jM _ hx.Sync (by omega), Option.bind_some]
theorem M.aC.jK (x : M.aC) (hx : M.aC.ok x) : rY x x = some true := by
  simp [rY, M.aH.jK _ hx.Base, M.Sync.jK _ hx.Sync]
structure M.aE.ok (x : M.aE) : Prop where
  Site : x.Site.size ≤ maxLen
  Top : x.Top.size ≤ maxLen
  Registration : M.Registration.ok x.Registration
  Caches : M.aT.ok x.Caches
  bC : M.bC.ok x.bC
  aC : M.aC.ok x.aC
  LastUsed : inI x.LastUsed
def M.aE.sh : List Shp := [.str, .str, .str, .int .i64, .int .i64, .int .i64, .sl M.Cache.sh, .str, .int .i64, .sl M.aH.sh, .sl M.aA.sh, .sl [.int .u8], .int .i64, .str, .sl M.Item.sh, .int .i64, .int .i64, .int .i64, .int .i64, .sl M.aW.sh, .int .i64, .int .i64, .int .i64, .bool]
theorem M.aE.cM (d : List D) (h : lV M.aE.sh d) : ∃ x, d = M.aE.en x ∧ M.aE.ok x := by
  simp only [M.aE.sh, lV, Has] at h
  obtain ⟨_, _, rfl, ⟨a1, rfl, w1⟩, _, _, rfl, ⟨a2, rfl, w2⟩, _, _, rfl, ⟨a3, rfl, w3⟩, _, _, rfl, ⟨a4, rfl, w4⟩, _, _, rfl, ⟨a5, rfl, w5⟩, _, _, rfl, ⟨a6, rfl, w6⟩, _, _, rfl, ⟨_, rfl, w7, q7⟩, _, _, rfl, ⟨a8, rfl, w8⟩, _, _, rfl, ⟨a9, rfl, w9⟩, _, _, rfl, ⟨_, rfl, w10, q10⟩, _, _, rfl, ⟨_, rfl, w11, q11⟩, _, _, rfl, ⟨_, rfl, w12, q12⟩, _, _, rfl, ⟨a13, rfl, w13⟩, _, _, rfl, ⟨a14, rfl, w14⟩, _, _, rfl, ⟨_, rfl, w15, q15⟩, _, _, rfl, ⟨a16, rfl, w16⟩, _, _, rfl, ⟨a17, rfl, w17⟩, _, _, rfl, ⟨a18, rfl, w18⟩, _, _, rfl, ⟨a19, rfl, w19⟩, _, _, rfl, ⟨_, rfl, w20, q20⟩, _, _, rfl, ⟨a21, rfl, w21⟩, _, _, rfl, ⟨a22, rfl, w22⟩, _, _, rfl, ⟨a23, rfl, w23⟩, _, _, rfl, ⟨a24, rfl⟩, rfl⟩ := h
  obtain ⟨a7, rfl, e7⟩ := bB M.Cache.cM q7
  obtain ⟨a10, rfl, e10⟩ := bB M.aH.cM q10
  obtain ⟨a11, rfl, e11⟩ := bB M.aA.cM q11
  obtain ⟨a12, rfl, e12⟩ := bB aLo q12
  obtain ⟨a15, rfl, e15⟩ := bB M.Item.cM q15
  obtain ⟨a20, rfl, e20⟩ := bB M.aW.cM q20
  exact ⟨⟨a1, a2, ⟨a3, a4, a5, a6⟩, ⟨a7⟩, ⟨⟨a8, a9, a10, a11⟩, a12, a13⟩, ⟨⟨a14, a15, a16⟩, a17, ⟨⟨a18, a19, a20⟩, a21, a22⟩⟩, a23, a24⟩, rfl, ⟨w1, w2, ⟨w3, wf_i64 w4, wf_i64 w5, wf_i64 w6⟩, ⟨⟨by simpa using w7, e7⟩⟩, ⟨⟨w8, wf_i64 w9, ⟨by simpa using w10, e10⟩, ⟨by simpa using w11, e11⟩⟩, ⟨by simpa using w12, e12⟩, wf_i64 w13⟩, ⟨⟨w14, ⟨by simpa using w15, e15⟩, wf_i64 w16⟩, wf_i64 w17, ⟨⟨wf_i64 w18, wf_i64 w19, ⟨by simpa using w20, e20⟩⟩, wf_i64 w21, wf_i64 w22⟩⟩, wf_i64 w23⟩⟩
def M.aE.sz (x : M.aE) : Nat := x.Site.size + (x.Top.size + (M.Registration.sz x.Registration + (M.aT.sz x.Caches + (M.bC.sz x.bC + (M.aC.sz x.aC)))))
theorem M.aE.kO (x : M.aE) (hx : M.aE.ok x) : Sz (uC x) (M.aE.sz x) := by
  intro l a b
  unfold uC M.aE.sz
  exact (Sz.aBO hx.Site (Sz.aBO hx.Top (Sz.qR (M.Registration.kO _ hx.Registration) (Sz.qR (M.aT.kO _ hx.Caches) (Sz.qR (M.bC.kO _ hx.bC) (Sz.call (M.aC.kO _ hx.aC))))))) l a b
theorem M.aE.jM (x : M.aE) (hx : M.aE.ok x) (hs : M.aE.sz x ≤ 1048576) : uK x = some x := by
  unfold M.aE.sz at hs
  unfold uK
  rw [M.Registration.jM _ hx.Registration (by omega), Option.bind_some, M.aT.jM _ hx.Caches (by omega), Option.bind_some, M.bC.jM _ hx.bC (by omega), Option.bind_some, M.aC.jM _ hx.aC (by omega), Option.bind_some]
theorem M.aE.jK (x : M.aE) (hx : M.aE.ok x) : vC x x = some true := by
  simp [vC, M.Registration.jK _ hx.Registration, M.aT.jK _ hx.Caches, M.bC.jK _ hx.bC, M.aC.jK _ hx.aC]
theorem M.aBj.kO (xs : List M.aE) (hx : (xs.length ≤ maxLen ∧ ∀ y ∈ xs, M.aE.ok y)) : Sz (rF xs) ((xs.length + aD M.aE.sz xs)) := by
  intro l a b
  unfold rF
  exact (Sz.aDl hx.1 (fun x h => M.aE.kO x (hx.2 x h)) (fun _ _ _ => rfl)) l a b
theorem M.aBj.jM (xs : List M.aE) (hx : (xs.length ≤ maxLen ∧ ∀ y ∈ xs, M.aE.ok y)) (hs : (xs.length + aD M.aE.sz xs) ≤ 1048576) : rU xs = some xs := by
  have hm := le_max hx.1
  unfold rU
  rw [zO (by omega) (by omega), Option.bind_some]
  refine yQ hx.1 (fun n k r hk hr => ?_) (fun n r => ?_) fuel 0 _ (by unfold fuel; omega) (by omega) (by simp) (by simp)
  · simp only [jB]
    rw [if_pos (bA hk), aN hk, Option.bind_some, M.aE.jM _ (hx.2 _ (List.getElem_mem hk)) (by have := cO (f := M.aE.sz) (List.getElem_mem hk); omega), Option.bind_some, aN (by omega), Option.bind_some, bE (by omega), Int.toNat_natCast]
  · simp only [jB]
    rw [if_neg (by rw [aO]; simp)]
theorem M.aBj.jK (xs : List M.aE) (hx : (xs.length ≤ maxLen ∧ ∀ y ∈ xs, M.aE.ok y)) : sA xs xs = some true := by
  have hm := le_max hx.1
  unfold sA
  rw [if_neg (by simp)]
  refine yR hx.1 (fun n k hk => ?_) (fun n => ?_) fuel 0 (by unfold fuel; omega) (by omega)
  · simp only [iS]
    rw [if_pos (bA hk), aN hk]
    simp [bE (show k < 9223372036854775807 by omega), M.aE.jK _ (hx.2 _ (List.getElem_mem hk))]
  · simp only [iS]
    rw [if_neg (by rw [aO]; simp)]
structure M.aK.ok (x : M.aK) : Prop where
  Buckets : (x.Buckets.length ≤ maxLen ∧ ∀ y ∈ x.Buckets, M.aE.ok y)
def M.aK.sh : List Shp := [.sl M.aE.sh]
theorem M.aK.cM (d : List D) (h : lV M.aK.sh d) : ∃ x, d = M.aK.en x ∧ M.aK.ok x := by
  simp only [M.aK.sh, lV, Has] at h
  obtain ⟨_, _, rfl, ⟨_, rfl, w1, q1⟩, rfl⟩ := h
  obtain ⟨a1, rfl, e1⟩ := bB M.aE.cM q1
  exact ⟨⟨a1⟩, rfl, ⟨⟨by simpa using w1, e1⟩⟩⟩
def M.aK.sz (x : M.aK) : Nat := (x.Buckets.length + aD M.aE.sz x.Buckets)
theorem M.aK.kO (x : M.aK) (hx : M.aK.ok x) : Sz (rE x) (M.aK.sz x) := by
  intro l a b
  unfold rE M.aK.sz
  exact (Sz.call (M.aBj.kO _ hx.Buckets)) l a b
theorem M.aK.jM (x : M.aK) (hx : M.aK.ok x) (hs : M.aK.sz x ≤ 1048576) : sW x = some x := by
  unfold M.aK.sz at hs
  unfold sW
  rw [M.aBj.jM _ hx.Buckets (by omega), Option.bind_some]
theorem M.aK.jK (x : M.aK) (hx : M.aK.ok x) : tC x x = some true := by
  simp [tC, M.aBj.jK _ hx.Buckets]
structure M.aM.ok (x : M.aM) : Prop where
  Path : x.Path.size ≤ maxLen
  Version : inI x.Version
def M.aM.sh : List Shp := [.str, .int .i64]
theorem M.aM.cM (d : List D) (h : lV M.aM.sh d) : ∃ x, d = M.aM.en x ∧ M.aM.ok x := by
  simp only [M.aM.sh, lV, Has] at h
  obtain ⟨_, _, rfl, ⟨a1, rfl, w1⟩, _, _, rfl, ⟨a2, rfl, w2⟩, rfl⟩ := h
  exact ⟨⟨a1, a2⟩, rfl, ⟨w1, wf_i64 w2⟩⟩
def M.aM.sz (x : M.aM) : Nat := x.Path.size
theorem M.aM.kO (x : M.aM) (hx : M.aM.ok x) : Sz (uW x) (M.aM.sz x) := by
  intro l a b
  unfold uW M.aM.sz
  exact (Sz.str hx.Path) l a b
theorem M.aM.jM (x : M.aM) (hx : M.aM.ok x) (hs : M.aM.sz x ≤ 1048576) : vQ x = some x := by
  unfold M.aM.sz at hs
  unfold vQ
  rfl
theorem M.aM.jK (x : M.aM) (hx : M.aM.ok x) : uB x x = some true := by
  simp [uB]
theorem M.aBu.kO (xs : List M.aM) (hx : (xs.length ≤ maxLen ∧ ∀ y ∈ xs, M.aM.ok y)) : Sz (sL xs) ((xs.length + aD M.aM.sz xs)) := by
  intro l a b
  unfold sL
  exact (Sz.aDl hx.1 (fun x h => M.aM.kO x (hx.2 x h)) (fun _ _ _ => rfl)) l a b
theorem M.aBu.jM (xs : List M.aM) (hx : (xs.length ≤ maxLen ∧ ∀ y ∈ xs, M.aM.ok y)) (hs : (xs.length + aD M.aM.sz xs) ≤ 1048576) : sK xs = some xs := by
  have hm := le_max hx.1
  unfold sK
  rw [zO (by omega) (by omega), Option.bind_some]
  refine yQ hx.1 (fun n k r hk hr => ?_) (fun n r => ?_) fuel 0 _ (by unfold fuel; omega) (by omega) (by simp) (by simp)
  · simp only [iT]
    rw [if_pos (bA hk), aN hk, Option.bind_some, M.aM.jM _ (hx.2 _ (List.getElem_mem hk)) (by have := cO (f := M.aM.sz) (List.getElem_mem hk); omega), Option.bind_some, aN (by omega), Option.bind_some, bE (by omega), Int.toNat_natCast]
  · simp only [iT]
    rw [if_neg (by rw [aO]; simp)]
theorem M.aBu.jK (xs : List M.aM) (hx : (xs.length ≤ maxLen ∧ ∀ y ∈ xs, M.aM.ok y)) : rM xs xs = some true := by
  have hm := le_max hx.1
  unfold rM
  rw [if_neg (by simp)]
  refine yR hx.1 (fun n k hk => ?_) (fun n => ?_) fuel 0 (by unfold fuel; omega) (by omega)
  · simp only [iP]
    rw [if_pos (bA hk), aN hk]
    simp [bE (show k < 9223372036854775807 by omega), M.aM.jK _ (hx.2 _ (List.getElem_mem hk))]
  · simp only [iP]
    rw [if_neg (by rw [aO]; simp)]
structure M.Instr.ok (x : M.Instr) : Prop where
  Kind : inI x.Kind
  R : inI x.R
  N : inI x.N
  Text : x.Text.size ≤ maxLen
def M.Instr.sh : List Shp := [.int .i64, .int .i64, .int .i64, .str]
theorem M.Instr.cM (d : List D) (h : lV M.Instr.sh d) : ∃ x, d = M.Instr.en x ∧ M.Instr.ok x := by
  simp only [M.Instr.sh, lV, Has] at h
  obtain ⟨_, _, rfl, ⟨a1, rfl, w1⟩, _, _, rfl, ⟨a2, rfl, w2⟩, _, _, rfl, ⟨a3, rfl, w3⟩, _, _, rfl, ⟨a4, rfl, w4⟩, rfl⟩ := h
  exact ⟨⟨a1, a2, a3, a4⟩, rfl, ⟨wf_i64 w1, wf_i64 w2, wf_i64 w3, w4⟩⟩
def M.Instr.sz (x : M.Instr) : Nat := x.Text.size
theorem M.Instr.kO (x : M.Instr) (hx : M.Instr.ok x) : Sz (xO x) (M.Instr.sz x) := by
  intro l a b
  unfold xO M.Instr.sz
  exact (Sz.str hx.Text) l a b
theorem M.Instr.jM (x : M.Instr) (hx : M.Instr.ok x) (hs : M.Instr.sz x ≤ 1048576) : xV x = some x := by
  unfold M.Instr.sz at hs
  unfold xV
  rfl
theorem M.Instr.jK (x : M.Instr) (hx : M.Instr.ok x) : yJ x x = some true := by
  simp [yJ]
theorem M.aD7.kO (xs : List M.Instr) (hx : (xs.length ≤ maxLen ∧ ∀ y ∈ xs, M.Instr.ok y)) : Sz (vM xs) ((xs.length + aD M.Instr.sz xs)) := by
  intro l a b
  unfold vM
  exact (Sz.aDl hx.1 (fun x h => M.Instr.kO x (hx.2 x h)) (fun _ _ _ => rfl)) l a b
theorem M.aD7.jM (xs : List M.Instr) (hx : (xs.length ≤ maxLen ∧ ∀ y ∈ xs, M.Instr.ok y)) (hs : (xs.length + aD M.Instr.sz xs) ≤ 1048576) : vG xs = some xs := by
  have hm := le_max hx.1
  unfold vG
  rw [zO (by omega) (by omega), Option.bind_some]
  refine yQ hx.1 (fun n k r hk hr => ?_) (fun n r => ?_) fuel 0 _ (by unfold fuel; omega) (by omega) (by simp) (by simp)
  · simp only [jY]
    rw [if_pos (bA hk), aN hk, Option.bind_some, M.Instr.jM _ (hx.2 _ (List.getElem_mem hk)) (by have := cO (f := M.Instr.sz) (List.getElem_mem hk); omega), Option.bind_some, aN (by omega), Option.bind_some, bE (by omega), Int.toNat_natCast]
  · simp only [jY]
    rw [if_neg (by rw [aO]; simp)]
theorem M.aD7.jK (xs : List M.Instr) (hx : (xs.length ≤ maxLen ∧ ∀ y ∈ xs, M.Instr.ok y)) : uO xs xs = some true := by
  have hm := le_max hx.1
  unfold uO
  rw [if_neg (by simp)]
  refine yR hx.1 (fun n k hk => ?_) (fun n => ?_) fuel 0 (by unfold fuel; omega) (by omega)
  · simp only [jW]
    rw [if_pos (bA hk), aN hk]
    simp [bE (show k < 9223372036854775807 by omega), M.Instr.jK _ (hx.2 _ (List.getElem_mem hk))]
  · simp only [jW]
    rw [if_neg (by rw [aO]; simp)]
theorem M.aJU.kO (xs : List Int) (hx : okI xs) : Sz (aAJ xs) (xs.length) := by
  intro l a b
  unfold aAJ
  exact (Sz.str hx.1) l a b
theorem M.aJU.jM (xs : List Int) (hx : okI xs) (hs : xs.length ≤ 1048576) : zQ xs = some xs := by
  have hm := le_max hx.1
  unfold zQ
  rw [zO (by omega) (by omega), Option.bind_some]
  refine yQ hx.1 (fun n k r hk hr => ?_) (fun n r => ?_) fuel 0 _ (by unfold fuel; omega) (by omega) (by simp) (by simp)
  · simp only [mG]
    rw [if_pos (bA hk), aN hk, Option.bind_some, aN (by omega), Option.bind_some, bE (by omega), Int.toNat_natCast]
  · simp only [mG]
    rw [if_neg (by rw [aO]; simp)]
theorem M.aJU.jK (xs : List Int) (hx : okI xs) : aAQ xs xs = some true := by
  have hm := le_max hx.1
  unfold aAQ
  rw [if_neg (by simp)]
  refine yR hx.1 (fun n k hk => ?_) (fun n => ?_) fuel 0 (by unfold fuel; omega) (by omega)
  · simp only [mI]
    rw [if_pos (bA hk), aN hk]
    simp [bE (show k < 9223372036854775807 by omega)]
  · simp only [mI]
    rw [if_neg (by rw [aO]; simp)]
structure M.Machine.ok (x : M.Machine) : Prop where
  Script : (x.Script.length ≤ maxLen ∧ ∀ y ∈ x.Script, M.Instr.ok y)
  Pc : inI x.Pc
  Regs : okI x.Regs
  Steps : inI x.Steps
def M.Machine.sh : List Shp := [.sl M.Instr.sh, .int .i64, .sl [.int .i64], .int .i64, .bool, .bool]
theorem M.Machine.cM (d : List D) (h : lV M.Machine.sh d) : ∃ x, d = M.Machine.en x ∧ M.Machine.ok x := by
  simp only [M.Machine.sh, lV, Has] at h
  obtain ⟨_, _, rfl, ⟨_, rfl, w1, q1⟩, _, _, rfl, ⟨a2, rfl, w2⟩, _, _, rfl, ⟨_, rfl, w3, q3⟩, _, _, rfl, ⟨a4, rfl, w4⟩, _, _, rfl, ⟨a5, rfl⟩, _, _, rfl, ⟨a6, rfl⟩, rfl⟩ := h
  obtain ⟨a1, rfl, e1⟩ := bB M.Instr.cM q1
  obtain ⟨a3, rfl, e3⟩ := bB aNF q3
  exact ⟨⟨a1, a2, a3, a4, a5, a6⟩, rfl, ⟨⟨by simpa using w1, e1⟩, wf_i64 w2, ⟨by simpa using w3, e3⟩, wf_i64 w4⟩⟩
def M.Machine.sz (x : M.Machine) : Nat := (x.Script.length + aD M.Instr.sz x.Script) + (x.Regs.length)
theorem M.Machine.kO (x : M.Machine) (hx : M.Machine.ok x) : Sz (sU x) (M.Machine.sz x) := by
  intro l a b
  unfold sU M.Machine.sz
  exact (Sz.qR (M.aD7.kO _ hx.Script) (Sz.call (M.aJU.kO _ hx.Regs))) l a b
theorem M.Machine.jM (x : M.Machine) (hx : M.Machine.ok x) (hs : M.Machine.sz x ≤ 1048576) : sM x = some x := by
  unfold M.Machine.sz at hs
  unfold sM
  rw [M.aD7.jM _ hx.Script (by omega), Option.bind_some, M.aJU.jM _ hx.Regs (by omega), Option.bind_some]
theorem M.Machine.jK (x : M.Machine) (hx : M.Machine.ok x) : sC x x = some true := by
  simp [sC, M.aD7.jK _ hx.Script, M.aJU.jK _ hx.Regs]
structure M.bJ.ok (x : M.bJ) : Prop where
  Id : inI x.Id
  Site : x.Site.size ≤ maxLen
  Top : x.Top.size ≤ maxLen
  Version : inI x.Version
  aM : (x.aM.length ≤ maxLen ∧ ∀ y ∈ x.aM, M.aM.ok y)
  Machine : M.Machine.ok x.Machine
def M.bJ.sh : List Shp := [.int .i64, .str, .str, .int .i64, .sl M.aM.sh, .sl M.Instr.sh, .int .i64, .sl [.int .i64], .int .i64, .bool, .bool]
theorem M.bJ.cM (d : List D) (h : lV M.bJ.sh d) : ∃ x, d = M.bJ.en x ∧ M.bJ.ok x := by
  simp only [M.bJ.sh, lV, Has] at h
  obtain ⟨_, _, rfl, ⟨a1, rfl, w1⟩, _, _, rfl, ⟨a2, rfl, w2⟩, _, _, rfl, ⟨a3, rfl, w3⟩, _, _, rfl, ⟨a4, rfl, w4⟩, _, _, rfl, ⟨_, rfl, w5, q5⟩, _, _, rfl, ⟨_, rfl, w6, q6⟩, _, _, rfl, ⟨a7, rfl, w7⟩, _, _, rfl, ⟨_, rfl, w8, q8⟩, _, _, rfl, ⟨a9, rfl, w9⟩, _, _, rfl, ⟨a10, rfl⟩, _, _, rfl, ⟨a11, rfl⟩, rfl⟩ := h
  obtain ⟨a5, rfl, e5⟩ := bB M.aM.cM q5
  obtain ⟨a6, rfl, e6⟩ := bB M.Instr.cM q6
  obtain ⟨a8, rfl, e8⟩ := bB aNF q8
  exact ⟨⟨a1, a2, a3, a4, a5, ⟨a6, a7, a8, a9, a10, a11⟩⟩, rfl, ⟨wf_i64 w1, w2, w3, wf_i64 w4, ⟨by simpa using w5, e5⟩, ⟨⟨by simpa using w6, e6⟩, wf_i64 w7, ⟨by simpa using w8, e8⟩, wf_i64 w9⟩⟩⟩
def M.bJ.sz (x : M.bJ) : Nat := x.Site.size + (x.Top.size + ((x.aM.length + aD M.aM.sz x.aM) + (M.Machine.sz x.Machine)))
theorem M.bJ.kO (x : M.bJ) (hx : M.bJ.ok x) : Sz (aAT x) (M.bJ.sz x) := by
  intro l a b
  unfold aAT M.bJ.sz
  exact (Sz.aBO hx.Site (Sz.aBO hx.Top (Sz.qR (M.aBu.kO _ hx.aM) (Sz.call (M.Machine.kO _ hx.Machine))))) l a b
theorem M.bJ.jM (x : M.bJ) (hx : M.bJ.ok x) (hs : M.bJ.sz x ≤ 1048576) : zA x = some x := by
  unfold M.bJ.sz at hs
  unfold zA
  rw [M.aBu.jM _ hx.aM (by omega), Option.bind_some, M.Machine.jM _ hx.Machine (by omega), Option.bind_some]
theorem M.bJ.jK (x : M.bJ) (hx : M.bJ.ok x) : aAX x x = some true := by
  simp [aAX, M.aBu.jK _ hx.aM, M.Machine.jK _ hx.Machine]
theorem M.aHN.kO (xs : List M.bJ) (hx : (xs.length ≤ maxLen ∧ ∀ y ∈ xs, M.bJ.ok y)) : Sz (xD xs) ((xs.length + aD M.bJ.sz xs)) := by
  intro l a b
  unfold xD
  exact (Sz.aDl hx.1 (fun x h => M.bJ.kO x (hx.2 x h)) (fun _ _ _ => rfl)) l a b
theorem M.aHN.jM (xs : List M.bJ) (hx : (xs.length ≤ maxLen ∧ ∀ y ∈ xs, M.bJ.ok y)) (hs : (xs.length + aD M.bJ.sz xs) ≤ 1048576) : xI xs = some xs := by
  have hm := le_max hx.1
  unfold xI
  rw [zO (by omega) (by omega), Option.bind_some]
  refine yQ hx.1 (fun n k r hk hr => ?_) (fun n r => ?_) fuel 0 _ (by unfold fuel; omega) (by omega) (by simp) (by simp)
  · simp only [lM]
    rw [if_pos (bA hk), aN hk, Option.bind_some, M.bJ.jM _ (hx.2 _ (List.getElem_mem hk)) (by have := cO (f := M.bJ.sz) (List.getElem_mem hk); omega), Option.bind_some, aN (by omega), Option.bind_some, bE (by omega), Int.toNat_natCast]
  · simp only [lM]
    rw [if_neg (by rw [aO]; simp)]
theorem M.aHN.jK (xs : List M.bJ) (hx : (xs.length ≤ maxLen ∧ ∀ y ∈ xs, M.bJ.ok y)) : xA xs xs = some true := by
  have hm := le_max hx.1
  unfold xA
  rw [if_neg (by simp)]
  refine yR hx.1 (fun n k hk => ?_) (fun n => ?_) fuel 0 (by unfold fuel; omega) (by omega)
  · simp only [lL]
    rw [if_pos (bA hk), aN hk]
    simp [bE (show k < 9223372036854775807 by omega), M.bJ.jK _ (hx.2 _ (List.getElem_mem hk))]
  · simp only [lL]
    rw [if_neg (by rw [aO]; simp)]
structure M.bY.ok (x : M.bY) : Prop where
  Name : x.Name.size ≤ maxLen
  bJ : inI x.bJ
def M.bY.sh : List Shp := [.str, .int .i64, .bool, .bool]
theorem M.bY.cM (d : List D) (h : lV M.bY.sh d) : ∃ x, d = M.bY.en x ∧ M.bY.ok x := by
  simp only [M.bY.sh, lV, Has] at h
  obtain ⟨_, _, rfl, ⟨a1, rfl, w1⟩, _, _, rfl, ⟨a2, rfl, w2⟩, _, _, rfl, ⟨a3, rfl⟩, _, _, rfl, ⟨a4, rfl⟩, rfl⟩ := h
  exact ⟨⟨a1, a2, a3, a4⟩, rfl, ⟨w1, wf_i64 w2⟩⟩
def M.bY.sz (x : M.bY) : Nat := x.Name.size
theorem M.bY.kO (x : M.bY) (hx : M.bY.ok x) : Sz (aAS x) (M.bY.sz x) := by
  intro l a b
  unfold aAS M.bY.sz
  exact (Sz.str hx.Name) l a b
theorem M.bY.jM (x : M.bY) (hx : M.bY.ok x) (hs : M.bY.sz x ≤ 1048576) : aAB x = some x := by
  unfold M.bY.sz at hs
  unfold aAB
  rfl
theorem M.bY.jK (x : M.bY) (hx : M.bY.ok x) : zG x x = some true := by
  simp [zG]
theorem M.aHg.kO (xs : List M.bY) (hx : (xs.length ≤ maxLen ∧ ∀ y ∈ xs, M.bY.ok y)) : Sz (xL xs) ((xs.length + aD M.bY.sz xs)) := by
  intro l a b
  unfold xL
  exact (Sz.aDl hx.1 (fun x h => M.bY.kO x (hx.2 x h)) (fun _ _ _ => rfl)) l a b
theorem M.aHg.jM (xs : List M.bY) (hx : (xs.length ≤ maxLen ∧ ∀ y ∈ xs, M.bY.ok y)) (hs : (xs.length + aD M.bY.sz xs) ≤ 1048576) : wU xs = some xs := by
  have hm := le_max hx.1
  unfold wU
  rw [zO (by omega) (by omega), Option.bind_some]
  refine yQ hx.1 (fun n k r hk hr => ?_) (fun n r => ?_) fuel 0 _ (by unfold fuel; omega) (by omega) (by simp) (by simp)
  · simp only [kX]
    rw [if_pos (bA hk), aN hk, Option.bind_some, M.bY.jM _ (hx.2 _ (List.getElem_mem hk)) (by have := cO (f := M.bY.sz) (List.getElem_mem hk); omega), Option.bind_some, aN (by omega), Option.bind_some, bE (by omega), Int.toNat_natCast]
  · simp only [kX]
    rw [if_neg (by rw [aO]; simp)]
theorem M.aHg.jK (xs : List M.bY) (hx : (xs.length ≤ maxLen ∧ ∀ y ∈ xs, M.bY.ok y)) : xW xs xs = some true := by
  have hm := le_max hx.1
  unfold xW
  rw [if_neg (by simp)]
  refine yR hx.1 (fun n k hk => ?_) (fun n => ?_) fuel 0 (by unfold fuel; omega) (by omega)
  · simp only [kU]
    rw [if_pos (bA hk), aN hk]
    simp [bE (show k < 9223372036854775807 by omega), M.bY.jK _ (hx.2 _ (List.getElem_mem hk))]
  · simp only [kU]
    rw [if_neg (by rw [aO]; simp)]
structure M.aQ.ok (x : M.aQ) : Prop where
  Locks : (x.Locks.length ≤ maxLen ∧ ∀ y ∈ x.Locks, M.bY.ok y)
def M.aQ.sh : List Shp := [.sl M.bY.sh]
theorem M.aQ.cM (d : List D) (h : lV M.aQ.sh d) : ∃ x, d = M.aQ.en x ∧ M.aQ.ok x := by
  simp only [M.aQ.sh, lV, Has] at h
  obtain ⟨_, _, rfl, ⟨_, rfl, w1, q1⟩, rfl⟩ := h
  obtain ⟨a1, rfl, e1⟩ := bB M.bY.cM q1
  exact ⟨⟨a1⟩, rfl, ⟨⟨by simpa using w1, e1⟩⟩⟩
def M.aQ.sz (x : M.aQ) : Nat := (x.Locks.length + aD M.bY.sz x.Locks)
theorem M.aQ.kO (x : M.aQ) (hx : M.aQ.ok x) : Sz (mY x) (M.aQ.sz x) := by
  intro l a b
  unfold mY M.aQ.sz
  exact (Sz.call (M.aHg.kO _ hx.Locks)) l a b
theorem M.aQ.jM (x : M.aQ) (hx : M.aQ.ok x) (hs : M.aQ.sz x ≤ 1048576) : nC x = some x := by
  unfold M.aQ.sz at hs
  unfold nC
  rw [M.aHg.jM _ hx.Locks (by omega), Option.bind_some]
theorem M.aQ.jK (x : M.aQ) (hx : M.aQ.ok x) : nS x x = some true := by
  simp [nS, M.aHg.jK _ hx.Locks]
structure M.fA.ok (x : M.fA) : Prop where
  To : inI x.To
  From : inI x.From
  N : inI x.N
def M.fA.sh : List Shp := [.int .i64, .int .i64, .int .i64]
theorem M.fA.cM (d : List D) (h : lV M.fA.sh d) : ∃ x, d = M.fA.en x ∧ M.fA.ok x := by
  simp only [M.fA.sh, lV, Has] at h
  obtain ⟨_, _, rfl, ⟨a1, rfl, w1⟩, _, _, rfl, ⟨a2, rfl, w2⟩, _, _, rfl, ⟨a3, rfl, w3⟩, rfl⟩ := h
  exact ⟨⟨a1, a2, a3⟩, rfl, ⟨wf_i64 w1, wf_i64 w2, wf_i64 w3⟩⟩
theorem M.fA.jM (x : M.fA) (hx : M.fA.ok x) : aAL x = some x := by
  unfold aAL
  rfl
theorem M.fA.jK (x : M.fA) (hx : M.fA.ok x) : aAE x x = some true := by
  simp [aAE]
theorem M.aHS.kO (xs : List M.fA) (hx : (xs.length ≤ maxLen ∧ ∀ y ∈ xs, M.fA.ok y)) : Sz (yG xs) (xs.length) := by
  intro l a b
  unfold yG
  exact (Sz.str hx.1) l a b
theorem M.aHS.jM (xs : List M.fA) (hx : (xs.length ≤ maxLen ∧ ∀ y ∈ xs, M.fA.ok y)) (hs : xs.length ≤ 1048576) : wV xs = some xs := by
  have hm := le_max hx.1
  unfold wV
  rw [zO (by omega) (by omega), Option.bind_some]
  refine yQ hx.1 (fun n k r hk hr => ?_) (fun n r => ?_) fuel 0 _ (by unfold fuel; omega) (by omega) (by simp) (by simp)
  · simp only [lF]
    rw [if_pos (bA hk), aN hk, Option.bind_some, M.fA.jM _ (hx.2 _ (List.getElem_mem hk)), Option.bind_some, aN (by omega), Option.bind_some, bE (by omega), Int.toNat_natCast]
  · simp only [lF]
    rw [if_neg (by rw [aO]; simp)]
theorem M.aHS.jK (xs : List M.fA) (hx : (xs.length ≤ maxLen ∧ ∀ y ∈ xs, M.fA.ok y)) : wS xs xs = some true := by
  have hm := le_max hx.1
  unfold wS
  rw [if_neg (by simp)]
  refine yR hx.1 (fun n k hk => ?_) (fun n => ?_) fuel 0 (by unfold fuel; omega) (by omega)
  · simp only [kY]
    rw [if_pos (bA hk), aN hk]
    simp [bE (show k < 9223372036854775807 by omega), M.fA.jK _ (hx.2 _ (List.getElem_mem hk))]
  · simp only [kY]
    rw [if_neg (by rw [aO]; simp)]
structure M.Channel.ok (x : M.Channel) : Prop where
  Mails : (x.Mails.length ≤ maxLen ∧ ∀ y ∈ x.Mails, M.fA.ok y)
def M.Channel.sh : List Shp := [.sl M.fA.sh]
theorem M.Channel.cM (d : List D) (h : lV M.Channel.sh d) : ∃ x, d = M.Channel.en x ∧ M.Channel.ok x := by
  simp only [M.Channel.sh, lV, Has] at h
  obtain ⟨_, _, rfl, ⟨_, rfl, w1, q1⟩, rfl⟩ := h
  obtain ⟨a1, rfl, e1⟩ := bB M.fA.cM q1
  exact ⟨⟨a1⟩, rfl, ⟨⟨by simpa using w1, e1⟩⟩⟩
def M.Channel.sz (x : M.Channel) : Nat := x.Mails.length
theorem M.Channel.kO (x : M.Channel) (hx : M.Channel.ok x) : Sz (rV x) (M.Channel.sz x) := by
  intro l a b
  unfold rV M.Channel.sz
  exact (Sz.call (M.aHS.kO _ hx.Mails)) l a b
theorem M.Channel.jM (x : M.Channel) (hx : M.Channel.ok x) (hs : M.Channel.sz x ≤ 1048576) : rZ x = some x := by
  unfold M.Channel.sz at hs
  unfold rZ
  rw [M.aHS.jM _ hx.Mails (by omega), Option.bind_some]
theorem M.Channel.jK (x : M.Channel) (hx : M.Channel.ok x) : rG x x = some true := by
  simp [rG, M.aHS.jK _ hx.Mails]
theorem M.aAO.kO (xs : List ByteArray) (hx : okS xs) : Sz (sX xs) ((xs.length + aD ByteArray.size xs)) := by
  intro l a b
  unfold sX
  exact (Sz.strs hx (fun _ _ _ => rfl)) l a b
theorem M.aAO.jM (xs : List ByteArray) (hx : okS xs) (hs : (xs.length + aD ByteArray.size xs) ≤ 1048576) : sY xs = some xs := by
  have hm := le_max hx.1
  unfold sY
  rw [zO (by omega) (by omega), Option.bind_some]
  refine yQ hx.1 (fun n k r hk hr => ?_) (fun n r => ?_) fuel 0 _ (by unfold fuel; omega) (by omega) (by simp) (by simp)
  · simp only [iZ]
    rw [if_pos (bA hk), aN hk, Option.bind_some, aN (by omega), Option.bind_some, bE (by omega), Int.toNat_natCast]
  · simp only [iZ]
    rw [if_neg (by rw [aO]; simp)]
theorem M.aAO.jK (xs : List ByteArray) (hx : okS xs) : sE xs xs = some true := by
  have hm := le_max hx.1
  unfold sE
  rw [if_neg (by simp)]
  refine yR hx.1 (fun n k hk => ?_) (fun n => ?_) fuel 0 (by unfold fuel; omega) (by omega)
  · simp only [iX]
    rw [if_pos (bA hk), aN hk]
    simp [bE (show k < 9223372036854775807 by omega)]
  · simp only [iX]
    rw [if_neg (by rw [aO]; simp)]
structure M.Site.ok (x : M.Site) : Prop where
  Name : x.Name.size ≤ maxLen
  Version : inI x.Version
  Files : okS x.Files
def M.Site.sh : List Shp := [.str, .int .i64, .sl [.str], .bool]
theorem M.Site.cM (d : List D) (h : lV M.Site.sh d) : ∃ x, d = M.Site.en x ∧ M.Site.ok x := by
  simp only [M.Site.sh, lV, Has] at h
  obtain ⟨_, _, rfl, ⟨a1, rfl, w1⟩, _, _, rfl, ⟨a2, rfl, w2⟩, _, _, rfl, ⟨_, rfl, w3, q3⟩, _, _, rfl, ⟨a4, rfl⟩, rfl⟩ := h
  obtain ⟨a3, rfl, e3⟩ := bB aNq q3
  exact ⟨⟨a1, a2, a3, a4⟩, rfl, ⟨w1, wf_i64 w2, ⟨by simpa using w3, e3⟩⟩⟩
def M.Site.sz (x : M.Site) : Nat := x.Name.size + ((x.Files.length + aD ByteArray.size x.Files))
theorem M.Site.kO (x : M.Site) (hx : M.Site.ok x) : Sz (zN x) (M.Site.sz x) := by
  intro l a b
  unfold zN M.Site.sz
  exact (Sz.aBO hx.Name (Sz.call (M.aAO.kO _ hx.Files))) l a b
theorem M.Site.jM (x : M.Site) (hx : M.Site.ok x) (hs : M.Site.sz x ≤ 1048576) : zC x = some x := by
  unfold M.Site.sz at hs
  unfold zC
  rw [M.aAO.jM _ hx.Files (by omega), Option.bind_some]
theorem M.Site.jK (x : M.Site) (hx : M.Site.ok x) : yZ x x = some true := by
  simp [yZ, M.aAO.jK _ hx.Files]
theorem M.aHY.kO (xs : List M.Site) (hx : (xs.length ≤ maxLen ∧ ∀ y ∈ xs, M.Site.ok y)) : Sz (wZ xs) ((xs.length + aD M.Site.sz xs)) := by
  intro l a b
  unfold wZ
  exact (Sz.aDl hx.1 (fun x h => M.Site.kO x (hx.2 x h)) (fun _ _ _ => rfl)) l a b
theorem M.aHY.jM (xs : List M.Site) (hx : (xs.length ≤ maxLen ∧ ∀ y ∈ xs, M.Site.ok y)) (hs : (xs.length + aD M.Site.sz xs) ≤ 1048576) : xJ xs = some xs := by
  have hm := le_max hx.1
  unfold xJ
  rw [zO (by omega) (by omega), Option.bind_some]
  refine yQ hx.1 (fun n k r hk hr => ?_) (fun n r => ?_) fuel 0 _ (by unfold fuel; omega) (by omega) (by simp) (by simp)
  · simp only [lA]
    rw [if_pos (bA hk), aN hk, Option.bind_some, M.Site.jM _ (hx.2 _ (List.getElem_mem hk)) (by have := cO (f := M.Site.sz) (List.getElem_mem hk); omega), Option.bind_some, aN (by omega), Option.bind_some, bE (by omega), Int.toNat_natCast]
  · simp only [lA]
    rw [if_neg (by rw [aO]; simp)]
theorem M.aHY.jK (xs : List M.Site) (hx : (xs.length ≤ maxLen ∧ ∀ y ∈ xs, M.Site.ok y)) : xT xs xs = some true := by
  have hm := le_max hx.1
  unfold xT
  rw [if_neg (by simp)]
  refine yR hx.1 (fun n k hk => ?_) (fun n => ?_) fuel 0 (by unfold fuel; omega) (by omega)
  · simp only [lK]
    rw [if_pos (bA hk), aN hk]
    simp [bE (show k < 9223372036854775807 by omega), M.Site.jK _ (hx.2 _ (List.getElem_mem hk))]
  · simp only [lK]
    rw [if_neg (by rw [aO]; simp)]
structure M.aG.ok (x : M.aG) : Prop where
  Device : inI x.Device
  Seq : inI x.Seq
def M.aG.sh : List Shp := [.int .i64, .int .i64]
theorem M.aG.cM (d : List D) (h : lV M.aG.sh d) : ∃ x, d = M.aG.en x ∧ M.aG.ok x := by
  simp only [M.aG.sh, lV, Has] at h
  obtain ⟨_, _, rfl, ⟨a1, rfl, w1⟩, _, _, rfl, ⟨a2, rfl, w2⟩, rfl⟩ := h
  exact ⟨⟨a1, a2⟩, rfl, ⟨wf_i64 w1, wf_i64 w2⟩⟩
theorem M.aG.jM (x : M.aG) (hx : M.aG.ok x) : sD x = some x := by
  unfold sD
  rfl
theorem M.aG.jK (x : M.aG) (hx : M.aG.ok x) : tH x x = some true := by
  simp [tH]
theorem M.aA4.kO (xs : List M.aG) (hx : (xs.length ≤ maxLen ∧ ∀ y ∈ xs, M.aG.ok y)) : Sz (pN xs) (xs.length) := by
  intro l a b
  unfold pN
  exact (Sz.str hx.1) l a b
theorem M.aA4.jM (xs : List M.aG) (hx : (xs.length ≤ maxLen ∧ ∀ y ∈ xs, M.aG.ok y)) (hs : xs.length ≤ 1048576) : pX xs = some xs := by
  have hm := le_max hx.1
  unfold pX
  rw [zO (by omega) (by omega), Option.bind_some]
  refine yQ hx.1 (fun n k r hk hr => ?_) (fun n r => ?_) fuel 0 _ (by unfold fuel; omega) (by omega) (by simp) (by simp)
  · simp only [iG]
    rw [if_pos (bA hk), aN hk, Option.bind_some, M.aG.jM _ (hx.2 _ (List.getElem_mem hk)), Option.bind_some, aN (by omega), Option.bind_some, bE (by omega), Int.toNat_natCast]
  · simp only [iG]
    rw [if_neg (by rw [aO]; simp)]
theorem M.aA4.jK (xs : List M.aG) (hx : (xs.length ≤ maxLen ∧ ∀ y ∈ xs, M.aG.ok y)) : pL xs xs = some true := by
  have hm := le_max hx.1
  unfold pL
  rw [if_neg (by simp)]
  refine yR hx.1 (fun n k hk => ?_) (fun n => ?_) fuel 0 (by unfold fuel; omega) (by omega)
  · simp only [iF]
    rw [if_pos (bA hk), aN hk]
    simp [bE (show k < 9223372036854775807 by omega), M.aG.jK _ (hx.2 _ (List.getElem_mem hk))]
  · simp only [iF]
    rw [if_neg (by rw [aO]; simp)]
structure M.Server.ok (x : M.Server) : Prop where
  aH : M.aH.ok x.aH
  aG : (x.aG.length ≤ maxLen ∧ ∀ y ∈ x.aG, M.aG.ok y)
  Changes : (x.Changes.length ≤ maxLen ∧ ∀ y ∈ x.Changes, M.aW.ok y)
def M.Server.sh : List Shp := [.str, .sl M.Item.sh, .int .i64, .sl M.aG.sh, .sl M.aW.sh]
theorem M.Server.cM (d : List D) (h : lV M.Server.sh d) : ∃ x, d = M.Server.en x ∧ M.Server.ok x := by
  simp only [M.Server.sh, lV, Has] at h
  obtain ⟨_, _, rfl, ⟨a1, rfl, w1⟩, _, _, rfl, ⟨_, rfl, w2, q2⟩, _, _, rfl, ⟨a3, rfl, w3⟩, _, _, rfl, ⟨_, rfl, w4, q4⟩, _, _, rfl, ⟨_, rfl, w5, q5⟩, rfl⟩ := h
  obtain ⟨a2, rfl, e2⟩ := bB M.Item.cM q2
  obtain ⟨a4, rfl, e4⟩ := bB M.aG.cM q4
  obtain ⟨a5, rfl, e5⟩ := bB M.aW.cM q5
  exact ⟨⟨⟨a1, a2, a3⟩, a4, a5⟩, rfl, ⟨⟨w1, ⟨by simpa using w2, e2⟩, wf_i64 w3⟩, ⟨by simpa using w4, e4⟩, ⟨by simpa using w5, e5⟩⟩⟩
def M.Server.sz (x : M.Server) : Nat := M.aH.sz x.aH + (x.aG.length + ((x.Changes.length + aD M.aW.sz x.Changes)))
theorem M.Server.kO (x : M.Server) (hx : M.Server.ok x) : Sz (vU x) (M.Server.sz x) := by
  intro l a b
  unfold vU M.Server.sz
  exact (Sz.qR (M.aH.kO _ hx.aH) (Sz.qR (M.aA4.kO _ hx.aG) (Sz.call (M.aBT.kO _ hx.Changes)))) l a b
theorem M.Server.jM (x : M.Server) (hx : M.Server.ok x) (hs : M.Server.sz x ≤ 1048576) : vD x = some x := by
  unfold M.Server.sz at hs
  unfold vD
  rw [M.aH.jM _ hx.aH (by omega), Option.bind_some, M.aA4.jM _ hx.aG (by omega), Option.bind_some, M.aBT.jM _ hx.Changes (by omega), Option.bind_some]
theorem M.Server.jK (x : M.Server) (hx : M.Server.ok x) : vY x x = some true := by
  simp [vY, M.aH.jK _ hx.aH, M.aA4.jK _ hx.aG, M.aBT.jK _ hx.Changes]
theorem M.aBo.kO (xs : List M.Server) (hx : (xs.length ≤ maxLen ∧ ∀ y ∈ xs, M.Server.ok y)) : Sz (tA xs) ((xs.length + aD M.Server.sz xs)) := by
  intro l a b
  unfold tA
  exact (Sz.aDl hx.1 (fun x h => M.Server.kO x (hx.2 x h)) (fun _ _ _ => rfl)) l a b
theorem M.aBo.jM (xs : List M.Server) (hx : (xs.length ≤ maxLen ∧ ∀ y ∈ xs, M.Server.ok y)) (hs : (xs.length + aD M.Server.sz xs) ≤ 1048576) : rX xs = some xs := by
  have hm := le_max hx.1
  unfold rX
  rw [zO (by omega) (by omega), Option.bind_some]
  refine yQ hx.1 (fun n k r hk hr => ?_) (fun n r => ?_) fuel 0 _ (by unfold fuel; omega) (by omega) (by simp) (by simp)
  · simp only [iV]
    rw [if_pos (bA hk), aN hk, Option.bind_some, M.Server.jM _ (hx.2 _ (List.getElem_mem hk)) (by have := cO (f := M.Server.sz) (List.getElem_mem hk); omega), Option.bind_some, aN (by omega), Option.bind_some, bE (by omega), Int.toNat_natCast]
  · simp only [iV]
    rw [if_neg (by rw [aO]; simp)]
theorem M.aBo.jK (xs : List M.Server) (hx : (xs.length ≤ maxLen ∧ ∀ y ∈ xs, M.Server.ok y)) : rQ xs xs = some true := by
  have hm := le_max hx.1
  unfold rQ
  rw [if_neg (by simp)]
  refine yR hx.1 (fun n k hk => ?_) (fun n => ?_) fuel 0 (by unfold fuel; omega) (by omega)
  · simp only [iU]
    rw [if_pos (bA hk), aN hk]
    simp [bE (show k < 9223372036854775807 by omega), M.Server.jK _ (hx.2 _ (List.getElem_mem hk))]
  · simp only [iU]
    rw [if_neg (by rw [aO]; simp)]
structure M.World.ok (x : M.World) : Prop where
  Now : inI x.Now
  Device : inI x.Device
  aK : M.aK.ok x.aK
  Pages : (x.Pages.length ≤ maxLen ∧ ∀ y ∈ x.Pages, M.bJ.ok y)
  NextPage : inI x.NextPage
  Locks : M.aQ.ok x.Locks
  Channel : M.Channel.ok x.Channel
  Sites : (x.Sites.length ≤ maxLen ∧ ∀ y ∈ x.Sites, M.Site.ok y)
  Servers : (x.Servers.length ≤ maxLen ∧ ∀ y ∈ x.Servers, M.Server.ok y)
def M.World.sh : List Shp := [.int .i64, .bool, .int .i64, .sl M.aE.sh, .sl M.bJ.sh, .int .i64, .sl M.bY.sh, .sl M.fA.sh, .sl M.Site.sh, .sl M.Server.sh]
theorem M.World.cM (d : List D) (h : lV M.World.sh d) : ∃ x, d = M.World.en x ∧ M.World.ok x := by
  simp only [M.World.sh, lV, Has] at h
  obtain ⟨_, _, rfl, ⟨a1, rfl, w1⟩, _, _, rfl, ⟨a2, rfl⟩, _, _, rfl, ⟨a3, rfl, w3⟩, _, _, rfl, ⟨_, rfl, w4, q4⟩, _, _, rfl, ⟨_, rfl, w5, q5⟩, _, _, rfl, ⟨a6, rfl, w6⟩, _, _, rfl, ⟨_, rfl, w7, q7⟩, _, _, rfl, ⟨_, rfl, w8, q8⟩, _, _, rfl, ⟨_, rfl, w9, q9⟩, _, _, rfl, ⟨_, rfl, w10, q10⟩, rfl⟩ := h
  obtain ⟨a4, rfl, e4⟩ := bB M.aE.cM q4
  obtain ⟨a5, rfl, e5⟩ := bB M.bJ.cM q5
  obtain ⟨a7, rfl, e7⟩ := bB M.bY.cM q7
  obtain ⟨a8, rfl, e8⟩ := bB M.fA.cM q8
  obtain ⟨a9, rfl, e9⟩ := bB M.Site.cM q9
  obtain ⟨a10, rfl, e10⟩ := bB M.Server.cM q10
  exact ⟨⟨a1, a2, a3, ⟨a4⟩, a5, a6, ⟨a7⟩, ⟨a8⟩, a9, a10⟩, rfl, ⟨wf_i64 w1, wf_i64 w3, ⟨⟨by simpa using w4, e4⟩⟩, ⟨by simpa using w5, e5⟩, wf_i64 w6, ⟨⟨by simpa using w7, e7⟩⟩, ⟨⟨by simpa using w8, e8⟩⟩, ⟨by simpa using w9, e9⟩, ⟨by simpa using w10, e10⟩⟩⟩
def M.World.sz (x : M.World) : Nat := M.aK.sz x.aK + ((x.Pages.length + aD M.bJ.sz x.Pages) + (M.aQ.sz x.Locks + (M.Channel.sz x.Channel + ((x.Sites.length + aD M.Site.sz x.Sites) + ((x.Servers.length + aD M.Server.sz x.Servers))))))
theorem M.World.kO (x : M.World) (hx : M.World.ok x) : Sz (yK x) (M.World.sz x) := by
  intro l a b
  unfold yK M.World.sz
  exact (Sz.qR (M.aK.kO _ hx.aK) (Sz.qR (M.aHN.kO _ hx.Pages) (Sz.qR (M.aQ.kO _ hx.Locks) (Sz.qR (M.Channel.kO _ hx.Channel) (Sz.qR (M.aHY.kO _ hx.Sites) (Sz.call (M.aBo.kO _ hx.Servers))))))) l a b
theorem M.World.jM (x : M.World) (hx : M.World.ok x) (hs : M.World.sz x ≤ 1048576) : kT x = some x := by
  unfold M.World.sz at hs
  unfold kT
  rw [M.aK.jM _ hx.aK (by omega), Option.bind_some, M.aHN.jM _ hx.Pages (by omega), Option.bind_some, M.aQ.jM _ hx.Locks (by omega), Option.bind_some, M.Channel.jM _ hx.Channel (by omega), Option.bind_some, M.aHY.jM _ hx.Sites (by omega), Option.bind_some, M.aBo.jM _ hx.Servers (by omega), Option.bind_some]
theorem M.World.jK (x : M.World) (hx : M.World.ok x) : kQ x x = some true := by
  simp [kQ, M.aK.jK _ hx.aK, M.aHN.jK _ hx.Pages, M.aQ.jK _ hx.Locks, M.Channel.jK _ hx.Channel, M.aHY.jK _ hx.Sites, M.aBo.jK _ hx.Servers]
end Go.Proofs.YtecmnmaaopkdfaaGreat.gen
