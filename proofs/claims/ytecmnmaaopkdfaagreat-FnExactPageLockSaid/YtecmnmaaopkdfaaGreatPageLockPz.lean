/-
  Helper text. No conditions.
-/
import Derived.Test.YtecmnmaaopkdfaaGreatPageLockMod
namespace Go.Proofs.YtecmnmaaopkdfaaGreat.gen
open Go Go.Sh
set_option linter.unusedVariables false
set_option linter.unusedSimpArgs false
structure M.Registration.ok (x : M.Registration) : Prop where
  Site : x.Site.size ≤ maxLen
  Installing : inI x.Installing
  Waiting : inI x.Waiting
  Active : inI x.Active
def M.Registration.sh : List Shp := [.str, .int .i64, .int .i64, .int .i64]
theorem M.Registration.cO (d : List D) (h : lU M.Registration.sh d) : ∃ x, d = M.Registration.en x ∧ M.Registration.ok x := by
  simp only [M.Registration.sh, lU, Has] at h
  obtain ⟨_, _, rfl, ⟨a1, rfl, w1⟩, _, _, rfl, ⟨a2, rfl, w2⟩, _, _, rfl, ⟨a3, rfl, w3⟩, _, _, rfl, ⟨a4, rfl, w4⟩, rfl⟩ := h
  exact ⟨⟨a1, a2, a3, a4⟩, rfl, ⟨w1, wf_i64 w2, wf_i64 w3, wf_i64 w4⟩⟩
def M.Registration.sz (x : M.Registration) : Nat := x.Site.size
theorem M.Registration.kX (x : M.Registration) (hx : M.Registration.ok x) : Sz (jR x) (M.Registration.sz x) := by
  intro l a b
  unfold jR M.Registration.sz
  exact (Sz.str hx.Site) l a b
theorem M.Registration.kL (x : M.Registration) (hx : M.Registration.ok x) (hs : M.Registration.sz x ≤ 1048576) : jT x = some x := by
  unfold M.Registration.sz at hs
  unfold jT
  rfl
theorem M.Registration.jU (x : M.Registration) (hx : M.Registration.ok x) : jS x x = some true := by
  simp [jS]
theorem M.aB6.kX (xs : List Int) (hx : okB xs) : Sz (tV xs) (xs.length) := by
  intro l a b
  unfold tV
  exact (Sz.str hx.1) l a b
theorem M.aB6.kL (xs : List Int) (hx : okB xs) (hs : xs.length ≤ 1048576) : tY xs = some xs := by
  have hm := le_max hx.1
  unfold tY
  rw [aAe (by omega) (by omega), Option.bind_some]
  refine zE hx.1 (fun n k r hk hr => ?_) (fun n r => ?_) fuel 0 _ (by unfold fuel; omega) (by omega) (by simp) (by simp)
  · simp only [lP]
    rw [if_pos (bA hk), aO hk, Option.bind_some, aO (by omega), Option.bind_some, bD (by omega), Int.toNat_natCast]
  · simp only [lP]
    rw [if_neg (by rw [aP]; simp)]
theorem M.aB6.jU (xs : List Int) (hx : okB xs) : tW xs xs = some true := by
  have hm := le_max hx.1
  unfold tW
  rw [if_neg (by simp)]
  refine zH hx.1 (fun n k hk => ?_) (fun n => ?_) fuel 0 (by unfold fuel; omega) (by omega)
  · simp only [lF]
    rw [if_pos (bA hk), aO hk]
    simp [bD (show k < 9223372036854775807 by omega)]
  · simp only [lF]
    rw [if_neg (by rw [aP]; simp)]
structure M.Response.ok (x : M.Response) : Prop where
  Type_ : inI x.Type_
  Status : inI x.Status
  Version : inI x.Version
  Body : okB x.Body
def M.Response.sh : List Shp := [.int .i64, .int .i64, .int .i64, .sl [.int .u8], .bool]
theorem M.Response.cO (d : List D) (h : lU M.Response.sh d) : ∃ x, d = M.Response.en x ∧ M.Response.ok x := by
  simp only [M.Response.sh, lU, Has] at h
  obtain ⟨_, _, rfl, ⟨a1, rfl, w1⟩, _, _, rfl, ⟨a2, rfl, w2⟩, _, _, rfl, ⟨a3, rfl, w3⟩, _, _, rfl, ⟨_, rfl, w4, q4⟩, _, _, rfl, ⟨a5, rfl⟩, rfl⟩ := h
  obtain ⟨a4, rfl, e4⟩ := bB aMG q4
  exact ⟨⟨a1, a2, a3, a4, a5⟩, rfl, ⟨wf_i64 w1, wf_i64 w2, wf_i64 w3, ⟨by simpa using w4, e4⟩⟩⟩
def M.Response.sz (x : M.Response) : Nat := x.Body.length
theorem M.Response.kX (x : M.Response) (hx : M.Response.ok x) : Sz (pX x) (M.Response.sz x) := by
  intro l a b
  unfold pX M.Response.sz
  exact (Sz.call (M.aB6.kX _ hx.Body)) l a b
theorem M.Response.kL (x : M.Response) (hx : M.Response.ok x) (hs : M.Response.sz x ≤ 1048576) : qO x = some x := by
  unfold M.Response.sz at hs
  unfold qO
  rw [M.aB6.kL _ hx.Body (by omega), Option.bind_some]
theorem M.Response.jU (x : M.Response) (hx : M.Response.ok x) : qW x x = some true := by
  simp [qW, M.aB6.jU _ hx.Body]
structure M.Cached.ok (x : M.Cached) : Prop where
  Site : x.Site.size ≤ maxLen
  Path : x.Path.size ≤ maxLen
  Response : M.Response.ok x.Response
def M.Cached.sh : List Shp := [.str, .str, .int .i64, .int .i64, .int .i64, .sl [.int .u8], .bool]
theorem M.Cached.cO (d : List D) (h : lU M.Cached.sh d) : ∃ x, d = M.Cached.en x ∧ M.Cached.ok x := by
  simp only [M.Cached.sh, lU, Has] at h
  obtain ⟨_, _, rfl, ⟨a1, rfl, w1⟩, _, _, rfl, ⟨a2, rfl, w2⟩, _, _, rfl, ⟨a3, rfl, w3⟩, _, _, rfl, ⟨a4, rfl, w4⟩, _, _, rfl, ⟨a5, rfl, w5⟩, _, _, rfl, ⟨_, rfl, w6, q6⟩, _, _, rfl, ⟨a7, rfl⟩, rfl⟩ := h
  obtain ⟨a6, rfl, e6⟩ := bB aMG q6
  exact ⟨⟨a1, a2, ⟨a3, a4, a5, a6, a7⟩⟩, rfl, ⟨w1, w2, ⟨wf_i64 w3, wf_i64 w4, wf_i64 w5, ⟨by simpa using w6, e6⟩⟩⟩⟩
def M.Cached.sz (x : M.Cached) : Nat := x.Site.size + (x.Path.size + (M.Response.sz x.Response))
theorem M.Cached.kX (x : M.Cached) (hx : M.Cached.ok x) : Sz (vQ x) (M.Cached.sz x) := by
  intro l a b
  unfold vQ M.Cached.sz
  exact (Sz.aBh hx.Site (Sz.aBh hx.Path (Sz.call (M.Response.kX _ hx.Response)))) l a b
theorem M.Cached.kL (x : M.Cached) (hx : M.Cached.ok x) (hs : M.Cached.sz x ≤ 1048576) : vV x = some x := by
  unfold M.Cached.sz at hs
  unfold vV
  rw [M.Response.kL _ hx.Response (by omega), Option.bind_some]
theorem M.Cached.jU (x : M.Cached) (hx : M.Cached.ok x) : uS x x = some true := by
  simp [uS, M.Response.jU _ hx.Response]
theorem M.aB8.kX (xs : List M.Cached) (hx : (xs.length ≤ maxLen ∧ ∀ y ∈ xs, M.Cached.ok y)) : Sz (tJ xs) ((xs.length + aD M.Cached.sz xs)) := by
  intro l a b
  unfold tJ
  exact (Sz.aEB hx.1 (fun x h => M.Cached.kX x (hx.2 x h)) (fun _ _ _ => rfl)) l a b
theorem M.aB8.kL (xs : List M.Cached) (hx : (xs.length ≤ maxLen ∧ ∀ y ∈ xs, M.Cached.ok y)) (hs : (xs.length + aD M.Cached.sz xs) ≤ 1048576) : tD xs = some xs := by
  have hm := le_max hx.1
  unfold tD
  rw [aAe (by omega) (by omega), Option.bind_some]
  refine zE hx.1 (fun n k r hk hr => ?_) (fun n r => ?_) fuel 0 _ (by unfold fuel; omega) (by omega) (by simp) (by simp)
  · simp only [jK]
    rw [if_pos (bA hk), aO hk, Option.bind_some, M.Cached.kL _ (hx.2 _ (List.getElem_mem hk)) (by have := cQ (f := M.Cached.sz) (List.getElem_mem hk); omega), Option.bind_some, aO (by omega), Option.bind_some, bD (by omega), Int.toNat_natCast]
  · simp only [jK]
    rw [if_neg (by rw [aP]; simp)]
theorem M.aB8.jU (xs : List M.Cached) (hx : (xs.length ≤ maxLen ∧ ∀ y ∈ xs, M.Cached.ok y)) : sK xs xs = some true := by
  have hm := le_max hx.1
  unfold sK
  rw [if_neg (by simp)]
  refine zH hx.1 (fun n k hk => ?_) (fun n => ?_) fuel 0 (by unfold fuel; omega) (by omega)
  · simp only [jL]
    rw [if_pos (bA hk), aO hk]
    simp [bD (show k < 9223372036854775807 by omega), M.Cached.jU _ (hx.2 _ (List.getElem_mem hk))]
  · simp only [jL]
    rw [if_neg (by rw [aP]; simp)]
structure M.Cache.ok (x : M.Cache) : Prop where
  Version : inI x.Version
  Entries : (x.Entries.length ≤ maxLen ∧ ∀ y ∈ x.Entries, M.Cached.ok y)
def M.Cache.sh : List Shp := [.int .i64, .sl M.Cached.sh]
theorem M.Cache.cO (d : List D) (h : lU M.Cache.sh d) : ∃ x, d = M.Cache.en x ∧ M.Cache.ok x := by
  simp only [M.Cache.sh, lU, Has] at h
  obtain ⟨_, _, rfl, ⟨a1, rfl, w1⟩, _, _, rfl, ⟨_, rfl, w2, q2⟩, rfl⟩ := h
  obtain ⟨a2, rfl, e2⟩ := bB M.Cached.cO q2
  exact ⟨⟨a1, a2⟩, rfl, ⟨wf_i64 w1, ⟨by simpa using w2, e2⟩⟩⟩
def M.Cache.sz (x : M.Cache) : Nat := (x.Entries.length + aD M.Cached.sz x.Entries)
theorem M.Cache.kX (x : M.Cache) (hx : M.Cache.ok x) : Sz (yM x) (M.Cache.sz x) := by
  intro l a b
  unfold yM M.Cache.sz
  exact (Sz.call (M.aB8.kX _ hx.Entries)) l a b
theorem M.Cache.kL (x : M.Cache) (hx : M.Cache.ok x) (hs : M.Cache.sz x ≤ 1048576) : yX x = some x := by
  unfold M.Cache.sz at hs
  unfold yX
  rw [M.aB8.kL _ hx.Entries (by omega), Option.bind_some]
theorem M.Cache.jU (x : M.Cache) (hx : M.Cache.ok x) : yB x x = some true := by
  simp [yB, M.aB8.jU _ hx.Entries]
theorem M.aD8.kX (xs : List M.Cache) (hx : (xs.length ≤ maxLen ∧ ∀ y ∈ xs, M.Cache.ok y)) : Sz (vC xs) ((xs.length + aD M.Cache.sz xs)) := by
  intro l a b
  unfold vC
  exact (Sz.aEB hx.1 (fun x h => M.Cache.kX x (hx.2 x h)) (fun _ _ _ => rfl)) l a b
theorem M.aD8.kL (xs : List M.Cache) (hx : (xs.length ≤ maxLen ∧ ∀ y ∈ xs, M.Cache.ok y)) (hs : (xs.length + aD M.Cache.sz xs) ≤ 1048576) : vA xs = some xs := by
  have hm := le_max hx.1
  unfold vA
  rw [aAe (by omega) (by omega), Option.bind_some]
  refine zE hx.1 (fun n k r hk hr => ?_) (fun n r => ?_) fuel 0 _ (by unfold fuel; omega) (by omega) (by simp) (by simp)
  · simp only [kD]
    rw [if_pos (bA hk), aO hk, Option.bind_some, M.Cache.kL _ (hx.2 _ (List.getElem_mem hk)) (by have := cQ (f := M.Cache.sz) (List.getElem_mem hk); omega), Option.bind_some, aO (by omega), Option.bind_some, bD (by omega), Int.toNat_natCast]
  · simp only [kD]
    rw [if_neg (by rw [aP]; simp)]
theorem M.aD8.jU (xs : List M.Cache) (hx : (xs.length ≤ maxLen ∧ ∀ y ∈ xs, M.Cache.ok y)) : vH xs xs = some true := by
  have hm := le_max hx.1
  unfold vH
  rw [if_neg (by simp)]
  refine zH hx.1 (fun n k hk => ?_) (fun n => ?_) fuel 0 (by unfold fuel; omega) (by omega)
  · simp only [jV]
    rw [if_pos (bA hk), aO hk]
    simp [bD (show k < 9223372036854775807 by omega), M.Cache.jU _ (hx.2 _ (List.getElem_mem hk))]
  · simp only [jV]
    rw [if_neg (by rw [aP]; simp)]
structure M.aT.ok (x : M.aT) : Prop where
  Caches : (x.Caches.length ≤ maxLen ∧ ∀ y ∈ x.Caches, M.Cache.ok y)
def M.aT.sh : List Shp := [.sl M.Cache.sh]
theorem M.aT.cO (d : List D) (h : lU M.aT.sh d) : ∃ x, d = M.aT.en x ∧ M.aT.ok x := by
  simp only [M.aT.sh, lU, Has] at h
  obtain ⟨_, _, rfl, ⟨_, rfl, w1, q1⟩, rfl⟩ := h
  obtain ⟨a1, rfl, e1⟩ := bB M.Cache.cO q1
  exact ⟨⟨a1⟩, rfl, ⟨⟨by simpa using w1, e1⟩⟩⟩
def M.aT.sz (x : M.aT) : Nat := (x.Caches.length + aD M.Cache.sz x.Caches)
theorem M.aT.kX (x : M.aT) (hx : M.aT.ok x) : Sz (qB x) (M.aT.sz x) := by
  intro l a b
  unfold qB M.aT.sz
  exact (Sz.call (M.aD8.kX _ hx.Caches)) l a b
theorem M.aT.kL (x : M.aT) (hx : M.aT.ok x) (hs : M.aT.sz x ≤ 1048576) : pC x = some x := by
  unfold M.aT.sz at hs
  unfold pC
  rw [M.aD8.kL _ hx.Caches (by omega), Option.bind_some]
theorem M.aT.jU (x : M.aT) (hx : M.aT.ok x) : qG x x = some true := by
  simp [qG, M.aD8.jU _ hx.Caches]
structure M.Key.ok (x : M.Key) : Prop where
  Kind : inI x.Kind
  N : inI x.N
  Text : x.Text.size ≤ maxLen
def M.Key.sh : List Shp := [.int .i64, .int .i64, .str]
theorem M.Key.cO (d : List D) (h : lU M.Key.sh d) : ∃ x, d = M.Key.en x ∧ M.Key.ok x := by
  simp only [M.Key.sh, lU, Has] at h
  obtain ⟨_, _, rfl, ⟨a1, rfl, w1⟩, _, _, rfl, ⟨a2, rfl, w2⟩, _, _, rfl, ⟨a3, rfl, w3⟩, rfl⟩ := h
  exact ⟨⟨a1, a2, a3⟩, rfl, ⟨wf_i64 w1, wf_i64 w2, w3⟩⟩
def M.Key.sz (x : M.Key) : Nat := x.Text.size
theorem M.Key.kX (x : M.Key) (hx : M.Key.ok x) : Sz (zK x) (M.Key.sz x) := by
  intro l a b
  unfold zK M.Key.sz
  exact (Sz.str hx.Text) l a b
theorem M.Key.kL (x : M.Key) (hx : M.Key.ok x) (hs : M.Key.sz x ≤ 1048576) : zI x = some x := by
  unfold M.Key.sz at hs
  unfold zI
  rfl
theorem M.Key.jU (x : M.Key) (hx : M.Key.ok x) : zJ x x = some true := by
  simp [zJ]
structure M.Field.ok (x : M.Field) : Prop where
  Name : x.Name.size ≤ maxLen
  N : inI x.N
def M.Field.sh : List Shp := [.str, .int .i64]
theorem M.Field.cO (d : List D) (h : lU M.Field.sh d) : ∃ x, d = M.Field.en x ∧ M.Field.ok x := by
  simp only [M.Field.sh, lU, Has] at h
  obtain ⟨_, _, rfl, ⟨a1, rfl, w1⟩, _, _, rfl, ⟨a2, rfl, w2⟩, rfl⟩ := h
  exact ⟨⟨a1, a2⟩, rfl, ⟨w1, wf_i64 w2⟩⟩
def M.Field.sz (x : M.Field) : Nat := x.Name.size
theorem M.Field.kX (x : M.Field) (hx : M.Field.ok x) : Sz (xQ x) (M.Field.sz x) := by
  intro l a b
  unfold xQ M.Field.sz
  exact (Sz.str hx.Name) l a b
theorem M.Field.kL (x : M.Field) (hx : M.Field.ok x) (hs : M.Field.sz x ≤ 1048576) : yA x = some x := by
  unfold M.Field.sz at hs
  unfold yA
  rfl
theorem M.Field.jU (x : M.Field) (hx : M.Field.ok x) : yR x x = some true := by
  simp [yR]
theorem M.aDh.kX (xs : List M.Field) (hx : (xs.length ≤ maxLen ∧ ∀ y ∈ xs, M.Field.ok y)) : Sz (wA xs) ((xs.length + aD M.Field.sz xs)) := by
  intro l a b
  unfold wA
  exact (Sz.aEB hx.1 (fun x h => M.Field.kX x (hx.2 x h)) (fun _ _ _ => rfl)) l a b
theorem M.aDh.kL (xs : List M.Field) (hx : (xs.length ≤ maxLen ∧ ∀ y ∈ xs, M.Field.ok y)) (hs : (xs.length + aD M.Field.sz xs) ≤ 1048576) : vN xs = some xs := by
  have hm := le_max hx.1
  unfold vN
  rw [aAe (by omega) (by omega), Option.bind_some]
  refine zE hx.1 (fun n k r hk hr => ?_) (fun n r => ?_) fuel 0 _ (by unfold fuel; omega) (by omega) (by simp) (by simp)
  · simp only [kE]
    rw [if_pos (bA hk), aO hk, Option.bind_some, M.Field.kL _ (hx.2 _ (List.getElem_mem hk)) (by have := cQ (f := M.Field.sz) (List.getElem_mem hk); omega), Option.bind_some, aO (by omega), Option.bind_some, bD (by omega), Int.toNat_natCast]
  · simp only [kE]
    rw [if_neg (by rw [aP]; simp)]
theorem M.aDh.jU (xs : List M.Field) (hx : (xs.length ≤ maxLen ∧ ∀ y ∈ xs, M.Field.ok y)) : uO xs xs = some true := by
  have hm := le_max hx.1
  unfold uO
  rw [if_neg (by simp)]
  refine zH hx.1 (fun n k hk => ?_) (fun n => ?_) fuel 0 (by unfold fuel; omega) (by omega)
  · simp only [kC]
    rw [if_pos (bA hk), aO hk]
    simp [bD (show k < 9223372036854775807 by omega), M.Field.jU _ (hx.2 _ (List.getElem_mem hk))]
  · simp only [kC]
    rw [if_neg (by rw [aP]; simp)]
structure M.aU.ok (x : M.aU) : Prop where
  Fields : (x.Fields.length ≤ maxLen ∧ ∀ y ∈ x.Fields, M.Field.ok y)
def M.aU.sh : List Shp := [.sl M.Field.sh]
theorem M.aU.cO (d : List D) (h : lU M.aU.sh d) : ∃ x, d = M.aU.en x ∧ M.aU.ok x := by
  simp only [M.aU.sh, lU, Has] at h
  obtain ⟨_, _, rfl, ⟨_, rfl, w1, q1⟩, rfl⟩ := h
  obtain ⟨a1, rfl, e1⟩ := bB M.Field.cO q1
  exact ⟨⟨a1⟩, rfl, ⟨⟨by simpa using w1, e1⟩⟩⟩
def M.aU.sz (x : M.aU) : Nat := (x.Fields.length + aD M.Field.sz x.Fields)
theorem M.aU.kX (x : M.aU) (hx : M.aU.ok x) : Sz (wI x) (M.aU.sz x) := by
  intro l a b
  unfold wI M.aU.sz
  exact (Sz.call (M.aDh.kX _ hx.Fields)) l a b
theorem M.aU.kL (x : M.aU) (hx : M.aU.ok x) (hs : M.aU.sz x ≤ 1048576) : uX x = some x := by
  unfold M.aU.sz at hs
  unfold uX
  rw [M.aDh.kL _ hx.Fields (by omega), Option.bind_some]
theorem M.aU.jU (x : M.aU) (hx : M.aU.ok x) : uY x x = some true := by
  simp [uY, M.aDh.jU _ hx.Fields]
structure M.Item.ok (x : M.Item) : Prop where
  Key : M.Key.ok x.Key
  aU : M.aU.ok x.aU
def M.Item.sh : List Shp := [.int .i64, .int .i64, .str, .sl M.Field.sh]
theorem M.Item.cO (d : List D) (h : lU M.Item.sh d) : ∃ x, d = M.Item.en x ∧ M.Item.ok x := by
  simp only [M.Item.sh, lU, Has] at h
  obtain ⟨_, _, rfl, ⟨a1, rfl, w1⟩, _, _, rfl, ⟨a2, rfl, w2⟩, _, _, rfl, ⟨a3, rfl, w3⟩, _, _, rfl, ⟨_, rfl, w4, q4⟩, rfl⟩ := h
  obtain ⟨a4, rfl, e4⟩ := bB M.Field.cO q4
  exact ⟨⟨⟨a1, a2, a3⟩, ⟨a4⟩⟩, rfl, ⟨⟨wf_i64 w1, wf_i64 w2, w3⟩, ⟨⟨by simpa using w4, e4⟩⟩⟩⟩
def M.Item.sz (x : M.Item) : Nat := M.Key.sz x.Key + (M.aU.sz x.aU)
theorem M.Item.kX (x : M.Item) (hx : M.Item.ok x) : Sz (aAs x) (M.Item.sz x) := by
  intro l a b
  unfold aAs M.Item.sz
  exact (Sz.qZ (M.Key.kX _ hx.Key) (Sz.call (M.aU.kX _ hx.aU))) l a b
theorem M.Item.kL (x : M.Item) (hx : M.Item.ok x) (hs : M.Item.sz x ≤ 1048576) : aAT x = some x := by
  unfold M.Item.sz at hs
  unfold aAT
  rw [M.Key.kL _ hx.Key (by omega), Option.bind_some, M.aU.kL _ hx.aU (by omega), Option.bind_some]
theorem M.Item.jU (x : M.Item) (hx : M.Item.ok x) : zS x x = some true := by
  simp [zS, M.Key.jU _ hx.Key, M.aU.jU _ hx.aU]
theorem M.aEx.kX (xs : List M.Item) (hx : (xs.length ≤ maxLen ∧ ∀ y ∈ xs, M.Item.ok y)) : Sz (xU xs) ((xs.length + aD M.Item.sz xs)) := by
  intro l a b
  unfold xU
  exact (Sz.aEB hx.1 (fun x h => M.Item.kX x (hx.2 x h)) (fun _ _ _ => rfl)) l a b
theorem M.aEx.kL (xs : List M.Item) (hx : (xs.length ≤ maxLen ∧ ∀ y ∈ xs, M.Item.ok y)) (hs : (xs.length + aD M.Item.sz xs) ≤ 1048576) : xT xs = some xs := by
  have hm := le_max hx.1
  unfold xT
  rw [aAe (by omega) (by omega), Option.bind_some]
  refine zE hx.1 (fun n k r hk hr => ?_) (fun n r => ?_) fuel 0 _ (by unfold fuel; omega) (by omega) (by simp) (by simp)
  · simp only [lI]
    rw [if_pos (bA hk), aO hk, Option.bind_some, M.Item.kL _ (hx.2 _ (List.getElem_mem hk)) (by have := cQ (f := M.Item.sz) (List.getElem_mem hk); omega), Option.bind_some, aO (by omega), Option.bind_some, bD (by omega), Int.toNat_natCast]
  · simp only [lI]
    rw [if_neg (by rw [aP]; simp)]
theorem M.aEx.jU (xs : List M.Item) (hx : (xs.length ≤ maxLen ∧ ∀ y ∈ xs, M.Item.ok y)) : xJ xs xs = some true := by
  have hm := le_max hx.1
  unfold xJ
  rw [if_neg (by simp)]
  refine zH hx.1 (fun n k hk => ?_) (fun n => ?_) fuel 0 (by unfold fuel; omega) (by omega)
  · simp only [lJ]
    rw [if_pos (bA hk), aO hk]
    simp [bD (show k < 9223372036854775807 by omega), M.Item.jU _ (hx.2 _ (List.getElem_mem hk))]
  · simp only [lJ]
    rw [if_neg (by rw [aP]; simp)]
structure M.aH.ok (x : M.aH) : Prop where
  Name : x.Name.size ≤ maxLen
  Items : (x.Items.length ≤ maxLen ∧ ∀ y ∈ x.Items, M.Item.ok y)
  Auto : inI x.Auto
def M.aH.sh : List Shp := [.str, .sl M.Item.sh, .int .i64]
theorem M.aH.cO (d : List D) (h : lU M.aH.sh d) : ∃ x, d = M.aH.en x ∧ M.aH.ok x := by
  simp only [M.aH.sh, lU, Has] at h
  obtain ⟨_, _, rfl, ⟨a1, rfl, w1⟩, _, _, rfl, ⟨_, rfl, w2, q2⟩, _, _, rfl, ⟨a3, rfl, w3⟩, rfl⟩ := h
  obtain ⟨a2, rfl, e2⟩ := bB M.Item.cO q2
  exact ⟨⟨a1, a2, a3⟩, rfl, ⟨w1, ⟨by simpa using w2, e2⟩, wf_i64 w3⟩⟩
def M.aH.sz (x : M.aH) : Nat := x.Name.size + ((x.Items.length + aD M.Item.sz x.Items))
theorem M.aH.kX (x : M.aH) (hx : M.aH.ok x) : Sz (oO x) (M.aH.sz x) := by
  intro l a b
  unfold oO M.aH.sz
  exact (Sz.aBh hx.Name (Sz.call (M.aEx.kX _ hx.Items))) l a b
theorem M.aH.kL (x : M.aH) (hx : M.aH.ok x) (hs : M.aH.sz x ≤ 1048576) : oL x = some x := by
  unfold M.aH.sz at hs
  unfold oL
  rw [M.aEx.kL _ hx.Items (by omega), Option.bind_some]
theorem M.aH.jU (x : M.aH) (hx : M.aH.ok x) : oQ x x = some true := by
  simp [oQ, M.aEx.jU _ hx.Items]
theorem M.aDa.kX (xs : List M.aH) (hx : (xs.length ≤ maxLen ∧ ∀ y ∈ xs, M.aH.ok y)) : Sz (vY xs) ((xs.length + aD M.aH.sz xs)) := by
  intro l a b
  unfold vY
  exact (Sz.aEB hx.1 (fun x h => M.aH.kX x (hx.2 x h)) (fun _ _ _ => rfl)) l a b
theorem M.aDa.kL (xs : List M.aH) (hx : (xs.length ≤ maxLen ∧ ∀ y ∈ xs, M.aH.ok y)) (hs : (xs.length + aD M.aH.sz xs) ≤ 1048576) : vZ xs = some xs := by
  have hm := le_max hx.1
  unfold vZ
  rw [aAe (by omega) (by omega), Option.bind_some]
  refine zE hx.1 (fun n k r hk hr => ?_) (fun n r => ?_) fuel 0 _ (by unfold fuel; omega) (by omega) (by simp) (by simp)
  · simp only [jX]
    rw [if_pos (bA hk), aO hk, Option.bind_some, M.aH.kL _ (hx.2 _ (List.getElem_mem hk)) (by have := cQ (f := M.aH.sz) (List.getElem_mem hk); omega), Option.bind_some, aO (by omega), Option.bind_some, bD (by omega), Int.toNat_natCast]
  · simp only [jX]
    rw [if_neg (by rw [aP]; simp)]
theorem M.aDa.jU (xs : List M.aH) (hx : (xs.length ≤ maxLen ∧ ∀ y ∈ xs, M.aH.ok y)) : uQ xs xs = some true := by
  have hm := le_max hx.1
  unfold uQ
  rw [if_neg (by simp)]
  refine zH hx.1 (fun n k hk => ?_) (fun n => ?_) fuel 0 (by unfold fuel; omega) (by omega)
  · simp only [kI]
    rw [if_pos (bA hk), aO hk]
    simp [bD (show k < 9223372036854775807 by omega), M.aH.jU _ (hx.2 _ (List.getElem_mem hk))]
  · simp only [kI]
    rw [if_neg (by rw [aP]; simp)]
structure M.aA.ok (x : M.aA) : Prop where
  aH : x.aH.size ≤ maxLen
  Field : x.Field.size ≤ maxLen
def M.aA.sh : List Shp := [.str, .str]
theorem M.aA.cO (d : List D) (h : lU M.aA.sh d) : ∃ x, d = M.aA.en x ∧ M.aA.ok x := by
  simp only [M.aA.sh, lU, Has] at h
  obtain ⟨_, _, rfl, ⟨a1, rfl, w1⟩, _, _, rfl, ⟨a2, rfl, w2⟩, rfl⟩ := h
  exact ⟨⟨a1, a2⟩, rfl, ⟨w1, w2⟩⟩
def M.aA.sz (x : M.aA) : Nat := x.aH.size + (x.Field.size)
theorem M.aA.kX (x : M.aA) (hx : M.aA.ok x) : Sz (pF x) (M.aA.sz x) := by
  intro l a b
  unfold pF M.aA.sz
  exact (Sz.aBh hx.aH (Sz.str hx.Field)) l a b
theorem M.aA.kL (x : M.aA) (hx : M.aA.ok x) (hs : M.aA.sz x ≤ 1048576) : pW x = some x := by
  unfold M.aA.sz at hs
  unfold pW
  rfl
theorem M.aA.jU (x : M.aA) (hx : M.aA.ok x) : pH x x = some true := by
  simp [pH]
theorem M.zO.kX (xs : List M.aA) (hx : (xs.length ≤ maxLen ∧ ∀ y ∈ xs, M.aA.ok y)) : Sz (nO xs) ((xs.length + aD M.aA.sz xs)) := by
  intro l a b
  unfold nO
  exact (Sz.aEB hx.1 (fun x h => M.aA.kX x (hx.2 x h)) (fun _ _ _ => rfl)) l a b
theorem M.zO.kL (xs : List M.aA) (hx : (xs.length ≤ maxLen ∧ ∀ y ∈ xs, M.aA.ok y)) (hs : (xs.length + aD M.aA.sz xs) ≤ 1048576) : nJ xs = some xs := by
  have hm := le_max hx.1
  unfold nJ
  rw [aAe (by omega) (by omega), Option.bind_some]
  refine zE hx.1 (fun n k r hk hr => ?_) (fun n r => ?_) fuel 0 _ (by unfold fuel; omega) (by omega) (by simp) (by simp)
  · simp only [iD]
    rw [if_pos (bA hk), aO hk, Option.bind_some, M.aA.kL _ (hx.2 _ (List.getElem_mem hk)) (by have := cQ (f := M.aA.sz) (List.getElem_mem hk); omega), Option.bind_some, aO (by omega), Option.bind_some, bD (by omega), Int.toNat_natCast]
  · simp only [iD]
    rw [if_neg (by rw [aP]; simp)]
theorem M.zO.jU (xs : List M.aA) (hx : (xs.length ≤ maxLen ∧ ∀ y ∈ xs, M.aA.ok y)) : nA xs xs = some true := by
  have hm := le_max hx.1
  unfold nA
  rw [if_neg (by simp)]
  refine zH hx.1 (fun n k hk => ?_) (fun n => ?_) fuel 0 (by unfold fuel; omega) (by omega)
  · simp only [hZ]
    rw [if_pos (bA hk), aO hk]
    simp [bD (show k < 9223372036854775807 by omega), M.aA.jU _ (hx.2 _ (List.getElem_mem hk))]
  · simp only [hZ]
    rw [if_neg (by rw [aP]; simp)]
structure M.Database.ok (x : M.Database) : Prop where
  Name : x.Name.size ≤ maxLen
  Version : inI x.Version
  Stores : (x.Stores.length ≤ maxLen ∧ ∀ y ∈ x.Stores, M.aH.ok y)
  Unique : (x.Unique.length ≤ maxLen ∧ ∀ y ∈ x.Unique, M.aA.ok y)
def M.Database.sh : List Shp := [.str, .int .i64, .sl M.aH.sh, .sl M.aA.sh]
theorem M.Database.cO (d : List D) (h : lU M.Database.sh d) : ∃ x, d = M.Database.en x ∧ M.Database.ok x := by
  simp only [M.Database.sh, lU, Has] at h
  obtain ⟨_, _, rfl, ⟨a1, rfl, w1⟩, _, _, rfl, ⟨a2, rfl, w2⟩, _, _, rfl, ⟨_, rfl, w3, q3⟩, _, _, rfl, ⟨_, rfl, w4, q4⟩, rfl⟩ := h
  obtain ⟨a3, rfl, e3⟩ := bB M.aH.cO q3
  obtain ⟨a4, rfl, e4⟩ := bB M.aA.cO q4
  exact ⟨⟨a1, a2, a3, a4⟩, rfl, ⟨w1, wf_i64 w2, ⟨by simpa using w3, e3⟩, ⟨by simpa using w4, e4⟩⟩⟩
def M.Database.sz (x : M.Database) : Nat := x.Name.size + ((x.Stores.length + aD M.aH.sz x.Stores) + ((x.Unique.length + aD M.aA.sz x.Unique)))
theorem M.Database.kX (x : M.Database) (hx : M.Database.ok x) : Sz (pP x) (M.Database.sz x) := by
  intro l a b
  unfold pP M.Database.sz
  exact (Sz.aBh hx.Name (Sz.qZ (M.aDa.kX _ hx.Stores) (Sz.call (M.zO.kX _ hx.Unique)))) l a b
theorem M.Database.kL (x : M.Database) (hx : M.Database.ok x) (hs : M.Database.sz x ≤ 1048576) : pI x = some x := by
  unfold M.Database.sz at hs
  unfold pI
  rw [M.aDa.kL _ hx.Stores (by omega), Option.bind_some, M.zO.kL _ hx.Unique (by omega), Option.bind_some]
theorem M.Database.jU (x : M.Database) (hx : M.Database.ok x) : pM x x = some true := by
  simp [pM, M.aDa.jU _ hx.Stores, M.zO.jU _ hx.Unique]
structure M.bE.ok (x : M.bE) : Prop where
  Base : M.Database.ok x.Base
  Log : okB x.Log
  Count : inI x.Count
def M.bE.sh : List Shp := [.str, .int .i64, .sl M.aH.sh, .sl M.aA.sh, .sl [.int .u8], .int .i64]
theorem M.bE.cO (d : List D) (h : lU M.bE.sh d) : ∃ x, d = M.bE.en x ∧ M.bE.ok x := by
  simp only [M.bE.sh, lU, Has] at h
  obtain ⟨_, _, rfl, ⟨a1, rfl, w1⟩, _, _, rfl, ⟨a2, rfl, w2⟩, _, _, rfl, ⟨_, rfl, w3, q3⟩, _, _, rfl, ⟨_, rfl, w4, q4⟩, _, _, rfl, ⟨_, rfl, w5, q5⟩, _, _, rfl, ⟨a6, rfl, w6⟩, rfl⟩ := h
  obtain ⟨a3, rfl, e3⟩ := bB M.aH.cO q3
  obtain ⟨a4, rfl, e4⟩ := bB M.aA.cO q4
  obtain ⟨a5, rfl, e5⟩ := bB aMG q5
  exact ⟨⟨⟨a1, a2, a3, a4⟩, a5, a6⟩, rfl, ⟨⟨w1, wf_i64 w2, ⟨by simpa using w3, e3⟩, ⟨by simpa using w4, e4⟩⟩, ⟨by simpa using w5, e5⟩, wf_i64 w6⟩⟩
def M.bE.sz (x : M.bE) : Nat := M.Database.sz x.Base + (x.Log.length)
theorem M.bE.kX (x : M.bE) (hx : M.bE.ok x) : Sz (aAA x) (M.bE.sz x) := by
  intro l a b
  unfold aAA M.bE.sz
  exact (Sz.qZ (M.Database.kX _ hx.Base) (Sz.call (M.aB6.kX _ hx.Log))) l a b
theorem M.bE.kL (x : M.bE) (hx : M.bE.ok x) (hs : M.bE.sz x ≤ 1048576) : aAX x = some x := by
  unfold M.bE.sz at hs
  unfold aAX
  rw [M.Database.kL _ hx.Base (by omega), Option.bind_some, M.aB6.kL _ hx.Log (by omega), Option.bind_some]
theorem M.bE.jU (x : M.bE) (hx : M.bE.ok x) : aAN x x = some true := by
  simp [aAN, M.Database.jU _ hx.Base, M.aB6.jU _ hx.Log]
structure M.aW.ok (x : M.aW) : Prop where
  Device : inI x.Device
  Seq : inI x.Seq
  Key : M.Key.ok x.Key
  Field : x.Field.size ≤ maxLen
  N : inI x.N
def M.aW.sh : List Shp := [.int .i64, .int .i64, .int .i64, .int .i64, .str, .str, .int .i64]
theorem M.aW.cO (d : List D) (h : lU M.aW.sh d) : ∃ x, d = M.aW.en x ∧ M.aW.ok x := by
  simp only [M.aW.sh, lU, Has] at h
  obtain ⟨_, _, rfl, ⟨a1, rfl, w1⟩, _, _, rfl, ⟨a2, rfl, w2⟩, _, _, rfl, ⟨a3, rfl, w3⟩, _, _, rfl, ⟨a4, rfl, w4⟩, _, _, rfl, ⟨a5, rfl, w5⟩, _, _, rfl, ⟨a6, rfl, w6⟩, _, _, rfl, ⟨a7, rfl, w7⟩, rfl⟩ := h
  exact ⟨⟨a1, a2, ⟨a3, a4, a5⟩, a6, a7⟩, rfl, ⟨wf_i64 w1, wf_i64 w2, ⟨wf_i64 w3, wf_i64 w4, w5⟩, w6, wf_i64 w7⟩⟩
def M.aW.sz (x : M.aW) : Nat := M.Key.sz x.Key + (x.Field.size)
theorem M.aW.kX (x : M.aW) (hx : M.aW.ok x) : Sz (xM x) (M.aW.sz x) := by
  intro l a b
  unfold xM M.aW.sz
  exact (Sz.qZ (M.Key.kX _ hx.Key) (Sz.str hx.Field)) l a b
theorem M.aW.kL (x : M.aW) (hx : M.aW.ok x) (hs : M.aW.sz x ≤ 1048576) : xL x = some x := by
  unfold M.aW.sz at hs
  unfold xL
  rw [M.Key.kL _ hx.Key (by omega), Option.bind_some]
theorem M.aW.jU (x : M.aW) (hx : M.aW.ok x) : xH x x = some true := by
  simp [xH, M.Key.jU _ hx.Key]
theorem M.aBk.kX (xs : List M.aW) (hx : (xs.length ≤ maxLen ∧ ∀ y ∈ xs, M.aW.ok y)) : Sz (pE xs) ((xs.length + aD M.aW.sz xs)) := by
  intro l a b
  unfold pE
  exact (Sz.aEB hx.1 (fun x h => M.aW.kX x (hx.2 x h)) (fun _ _ _ => rfl)) l a b
theorem M.aBk.kL (xs : List M.aW) (hx : (xs.length ≤ maxLen ∧ ∀ y ∈ xs, M.aW.ok y)) (hs : (xs.length + aD M.aW.sz xs) ≤ 1048576) : pQ xs = some xs := by
  have hm := le_max hx.1
  unfold pQ
  rw [aAe (by omega) (by omega), Option.bind_some]
  refine zE hx.1 (fun n k r hk hr => ?_) (fun n r => ?_) fuel 0 _ (by unfold fuel; omega) (by omega) (by simp) (by simp)
  · simp only [kA]
    rw [if_pos (bA hk), aO hk, Option.bind_some, M.aW.kL _ (hx.2 _ (List.getElem_mem hk)) (by have := cQ (f := M.aW.sz) (List.getElem_mem hk); omega), Option.bind_some, aO (by omega), Option.bind_some, bD (by omega), Int.toNat_natCast]
  · simp only [kA]
    rw [if_neg (by rw [aP]; simp)]
theorem M.aBk.jU (xs : List M.aW) (hx : (xs.length ≤ maxLen ∧ ∀ y ∈ xs, M.aW.ok y)) : qP xs xs = some true := by
  have hm := le_max hx.1
  unfold qP
  rw [if_neg (by simp)]
  refine zH hx.1 (fun n k hk => ?_) (fun n => ?_) fuel 0 (by unfold fuel; omega) (by omega)
  · simp only [kH]
    rw [if_pos (bA hk), aO hk]
    simp [bD (show k < 9223372036854775807 by omega), M.aW.jU _ (hx.2 _ (List.getElem_mem hk))]
  · simp only [kH]
    rw [if_neg (by rw [aP]; simp)]
structure M.aV.ok (x : M.aV) : Prop where
  Device : inI x.Device
  Next : inI x.Next
  Writes : (x.Writes.length ≤ maxLen ∧ ∀ y ∈ x.Writes, M.aW.ok y)
def M.aV.sh : List Shp := [.int .i64, .int .i64, .sl M.aW.sh]
theorem M.aV.cO (d : List D) (h : lU M.aV.sh d) : ∃ x, d = M.aV.en x ∧ M.aV.ok x := by
  simp only [M.aV.sh, lU, Has] at h
  obtain ⟨_, _, rfl, ⟨a1, rfl, w1⟩, _, _, rfl, ⟨a2, rfl, w2⟩, _, _, rfl, ⟨_, rfl, w3, q3⟩, rfl⟩ := h
  obtain ⟨a3, rfl, e3⟩ := bB M.aW.cO q3
  exact ⟨⟨a1, a2, a3⟩, rfl, ⟨wf_i64 w1, wf_i64 w2, ⟨by simpa using w3, e3⟩⟩⟩
def M.aV.sz (x : M.aV) : Nat := (x.Writes.length + aD M.aW.sz x.Writes)
theorem M.aV.kX (x : M.aV) (hx : M.aV.ok x) : Sz (vF x) (M.aV.sz x) := by
  intro l a b
  unfold vF M.aV.sz
  exact (Sz.call (M.aBk.kX _ hx.Writes)) l a b
theorem M.aV.kL (x : M.aV) (hx : M.aV.ok x) (hs : M.aV.sz x ≤ 1048576) : wJ x = some x := by
  unfold M.aV.sz at hs
  unfold wJ
  rw [M.aBk.kL _ hx.Writes (by omega), Option.bind_some]
theorem M.aV.jU (x : M.aV) (hx : M.aV.ok x) : uV x x = some true := by
  simp [uV, M.aBk.jU _ hx.Writes]
structure M.Sync.ok (x : M.Sync) : Prop where
  aV : M.aV.ok x.aV
  Tries : inI x.Tries
  WaitUntil : inI x.WaitUntil
def M.Sync.sh : List Shp := [.int .i64, .int .i64, .sl M.aW.sh, .int .i64, .int .i64]
theorem M.Sync.cO (d : List D) (h : lU M.Sync.sh d) : ∃ x, d = M.Sync.en x ∧ M.Sync.ok x := by
  simp only [M.Sync.sh, lU, Has] at h
  obtain ⟨_, _, rfl, ⟨a1, rfl, w1⟩, _, _, rfl, ⟨a2, rfl, w2⟩, _, _, rfl, ⟨_, rfl, w3, q3⟩, _, _, rfl, ⟨a4, rfl, w4⟩, _, _, rfl, ⟨a5, rfl, w5⟩, rfl⟩ := h
  obtain ⟨a3, rfl, e3⟩ := bB M.aW.cO q3
  exact ⟨⟨⟨a1, a2, a3⟩, a4, a5⟩, rfl, ⟨⟨wf_i64 w1, wf_i64 w2, ⟨by simpa using w3, e3⟩⟩, wf_i64 w4, wf_i64 w5⟩⟩
def M.Sync.sz (x : M.Sync) : Nat := M.aV.sz x.aV
theorem M.Sync.kX (x : M.Sync) (hx : M.Sync.ok x) : Sz (aAc x) (M.Sync.sz x) := by
  intro l a b
  unfold aAc M.Sync.sz
  exact (Sz.call (M.aV.kX _ hx.aV)) l a b
theorem M.Sync.kL (x : M.Sync) (hx : M.Sync.ok x) (hs : M.Sync.sz x ≤ 1048576) : aAE x = some x := by
  unfold M.Sync.sz at hs
  unfold aAE
  rw [M.aV.kL _ hx.aV (by omega), Option.bind_some]
theorem M.Sync.jU (x : M.Sync) (hx : M.Sync.ok x) : aAV x x = some true := by
  simp [aAV, M.aV.jU _ hx.aV]
structure M.aC.ok (x : M.aC) : Prop where
  Base : M.aH.ok x.Base
  Seen : inI x.Seen
  Sync : M.Sync.ok x.Sync
def M.aC.sh : List Shp := [.str, .sl M.Item.sh, .int .i64, .int .i64, .int .i64, .int .i64, .sl M.aW.sh, .int .i64, .int .i64]
theorem M.aC.cO (d : List D) (h : lU M.aC.sh d) : ∃ x, d = M.aC.en x ∧ M.aC.ok x := by
  simp only [M.aC.sh, lU, Has] at h
  obtain ⟨_, _, rfl, ⟨a1, rfl, w1⟩, _, _, rfl, ⟨_, rfl, w2, q2⟩, _, _, rfl, ⟨a3, rfl, w3⟩, _, _, rfl, ⟨a4, rfl, w4⟩, _, _, rfl, ⟨a5, rfl, w5⟩, _, _, rfl, ⟨a6, rfl, w6⟩, _, _, rfl, ⟨_, rfl, w7, q7⟩, _, _, rfl, ⟨a8, rfl, w8⟩, _, _, rfl, ⟨a9, rfl, w9⟩, rfl⟩ := h
  obtain ⟨a2, rfl, e2⟩ := bB M.Item.cO q2
  obtain ⟨a7, rfl, e7⟩ := bB M.aW.cO q7
  exact ⟨⟨⟨a1, a2, a3⟩, a4, ⟨⟨a5, a6, a7⟩, a8, a9⟩⟩, rfl, ⟨⟨w1, ⟨by simpa using w2, e2⟩, wf_i64 w3⟩, wf_i64 w4, ⟨⟨wf_i64 w5, wf_i64 w6, ⟨by simpa using w7, e7⟩⟩, wf_i64 w8, wf_i64 w9⟩⟩⟩
def M.aC.sz (x : M.aC) : Nat := M.aH.sz x.Base + (M.Sync.sz x.Sync)
theorem M.aC.kX (x : M.aC) (hx : M.aC.ok x) : Sz (sS x) (M.aC.sz x) := by
  intro l a b
  unfold sS M.aC.sz
  exact (Sz.qZ (M.aH.kX _ hx.Base) (Sz.call (M.Sync.kX _ hx.Sync))) l a b
theorem M.aC.kL (x : M.aC) (hx : M.aC.ok x) (hs : M.aC.sz x ≤ 1048576) : tO x = some x := by
  unfold M.aC.sz at hs
  unfold tO
  rw [M.aH.kL _ hx.Base (by omega), Option.bind_some, M.Sync.kL _ hx.Sync (by omega), Option.bind_some]
theorem M.aC.jU (x : M.aC) (hx : M.aC.ok x) : sA x x = some true := by
  simp [sA, M.aH.jU _ hx.Base, M.Sync.jU _ hx.Sync]
structure M.aE.ok (x : M.aE) : Prop where
  Site : x.Site.size ≤ maxLen
  Top : x.Top.size ≤ maxLen
  Registration : M.Registration.ok x.Registration
  Caches : M.aT.ok x.Caches
  bE : M.bE.ok x.bE
  aC : M.aC.ok x.aC
  LastUsed : inI x.LastUsed
def M.aE.sh : List Shp := [.str, .str, .str, .int .i64, .int .i64, .int .i64, .sl M.Cache.sh, .str, .int .i64, .sl M.aH.sh, .sl M.aA.sh, .sl [.int .u8], .int .i64, .str, .sl M.Item.sh, .int .i64, .int .i64, .int .i64, .int .i64, .sl M.aW.sh, .int .i64, .int .i64, .int .i64, .bool]
theorem M.aE.cO (d : List D) (h : lU M.aE.sh d) : ∃ x, d = M.aE.en x ∧ M.aE.ok x := by
  simp only [M.aE.sh, lU, Has] at h
  obtain ⟨_, _, rfl, ⟨a1, rfl, w1⟩, _, _, rfl, ⟨a2, rfl, w2⟩, _, _, rfl, ⟨a3, rfl, w3⟩, _, _, rfl, ⟨a4, rfl, w4⟩, _, _, rfl, ⟨a5, rfl, w5⟩, _, _, rfl, ⟨a6, rfl, w6⟩, _, _, rfl, ⟨_, rfl, w7, q7⟩, _, _, rfl, ⟨a8, rfl, w8⟩, _, _, rfl, ⟨a9, rfl, w9⟩, _, _, rfl, ⟨_, rfl, w10, q10⟩, _, _, rfl, ⟨_, rfl, w11, q11⟩, _, _, rfl, ⟨_, rfl, w12, q12⟩, _, _, rfl, ⟨a13, rfl, w13⟩, _, _, rfl, ⟨a14, rfl, w14⟩, _, _, rfl, ⟨_, rfl, w15, q15⟩, _, _, rfl, ⟨a16, rfl, w16⟩, _, _, rfl, ⟨a17, rfl, w17⟩, _, _, rfl, ⟨a18, rfl, w18⟩, _, _, rfl, ⟨a19, rfl, w19⟩, _, _, rfl, ⟨_, rfl, w20, q20⟩, _, _, rfl, ⟨a21, rfl, w21⟩, _, _, rfl, ⟨a22, rfl, w22⟩, _, _, rfl, ⟨a23, rfl, w23⟩, _, _, rfl, ⟨a24, rfl⟩, rfl⟩ := h
  obtain ⟨a7, rfl, e7⟩ := bB M.Cache.cO q7
  obtain ⟨a10, rfl, e10⟩ := bB M.aH.cO q10
  obtain ⟨a11, rfl, e11⟩ := bB M.aA.cO q11
  obtain ⟨a12, rfl, e12⟩ := bB aMG q12
  obtain ⟨a15, rfl, e15⟩ := bB M.Item.cO q15
  obtain ⟨a20, rfl, e20⟩ := bB M.aW.cO q20
  exact ⟨⟨a1, a2, ⟨a3, a4, a5, a6⟩, ⟨a7⟩, ⟨⟨a8, a9, a10, a11⟩, a12, a13⟩, ⟨⟨a14, a15, a16⟩, a17, ⟨⟨a18, a19, a20⟩, a21, a22⟩⟩, a23, a24⟩, rfl, ⟨w1, w2, ⟨w3, wf_i64 w4, wf_i64 w5, wf_i64 w6⟩, ⟨⟨by simpa using w7, e7⟩⟩, ⟨⟨w8, wf_i64 w9, ⟨by simpa using w10, e10⟩, ⟨by simpa using w11, e11⟩⟩, ⟨by simpa using w12, e12⟩, wf_i64 w13⟩, ⟨⟨w14, ⟨by simpa using w15, e15⟩, wf_i64 w16⟩, wf_i64 w17, ⟨⟨wf_i64 w18, wf_i64 w19, ⟨by simpa using w20, e20⟩⟩, wf_i64 w21, wf_i64 w22⟩⟩, wf_i64 w23⟩⟩
def M.aE.sz (x : M.aE) : Nat := x.Site.size + (x.Top.size + (M.Registration.sz x.Registration + (M.aT.sz x.Caches + (M.bE.sz x.bE + (M.aC.sz x.aC)))))
theorem M.aE.kX (x : M.aE) (hx : M.aE.ok x) : Sz (vM x) (M.aE.sz x) := by
  intro l a b
  unfold vM M.aE.sz
  exact (Sz.aBh hx.Site (Sz.aBh hx.Top (Sz.qZ (M.Registration.kX _ hx.Registration) (Sz.qZ (M.aT.kX _ hx.Caches) (Sz.qZ (M.bE.kX _ hx.bE) (Sz.call (M.aC.kX _ hx.aC))))))) l a b
theorem M.aE.kL (x : M.aE) (hx : M.aE.ok x) (hs : M.aE.sz x ≤ 1048576) : uL x = some x := by
  unfold M.aE.sz at hs
  unfold uL
  rw [M.Registration.kL _ hx.Registration (by omega), Option.bind_some, M.aT.kL _ hx.Caches (by omega), Option.bind_some, M.bE.kL _ hx.bE (by omega), Option.bind_some, M.aC.kL _ hx.aC (by omega), Option.bind_some]
theorem M.aE.jU (x : M.aE) (hx : M.aE.ok x) : uR x x = some true := by
  simp [uR, M.Registration.jU _ hx.Registration, M.aT.jU _ hx.Caches, M.bE.jU _ hx.bE, M.aC.jU _ hx.aC]
theorem M.aCC.kX (xs : List M.aE) (hx : (xs.length ≤ maxLen ∧ ∀ y ∈ xs, M.aE.ok y)) : Sz (sN xs) ((xs.length + aD M.aE.sz xs)) := by
  intro l a b
  unfold sN
  exact (Sz.aEB hx.1 (fun x h => M.aE.kX x (hx.2 x h)) (fun _ _ _ => rfl)) l a b
theorem M.aCC.kL (xs : List M.aE) (hx : (xs.length ≤ maxLen ∧ ∀ y ∈ xs, M.aE.ok y)) (hs : (xs.length + aD M.aE.sz xs) ≤ 1048576) : sY xs = some xs := by
  have hm := le_max hx.1
  unfold sY
  rw [aAe (by omega) (by omega), Option.bind_some]
  refine zE hx.1 (fun n k r hk hr => ?_) (fun n r => ?_) fuel 0 _ (by unfold fuel; omega) (by omega) (by simp) (by simp)
  · simp only [iZ]
    rw [if_pos (bA hk), aO hk, Option.bind_some, M.aE.kL _ (hx.2 _ (List.getElem_mem hk)) (by have := cQ (f := M.aE.sz) (List.getElem_mem hk); omega), Option.bind_some, aO (by omega), Option.bind_some, bD (by omega), Int.toNat_natCast]
  · simp only [iZ]
    rw [if_neg (by rw [aP]; simp)]
theorem M.aCC.jU (xs : List M.aE) (hx : (xs.length ≤ maxLen ∧ ∀ y ∈ xs, M.aE.ok y)) : sP xs xs = some true := by
  have hm := le_max hx.1
  unfold sP
  rw [if_neg (by simp)]
  refine zH hx.1 (fun n k hk => ?_) (fun n => ?_) fuel 0 (by unfold fuel; omega) (by omega)
  · simp only [jA]
    rw [if_pos (bA hk), aO hk]
    simp [bD (show k < 9223372036854775807 by omega), M.aE.jU _ (hx.2 _ (List.getElem_mem hk))]
  · simp only [jA]
    rw [if_neg (by rw [aP]; simp)]
structure M.aM.ok (x : M.aM) : Prop where
  Buckets : (x.Buckets.length ≤ maxLen ∧ ∀ y ∈ x.Buckets, M.aE.ok y)
def M.aM.sh : List Shp := [.sl M.aE.sh]
theorem M.aM.cO (d : List D) (h : lU M.aM.sh d) : ∃ x, d = M.aM.en x ∧ M.aM.ok x := by
  simp only [M.aM.sh, lU, Has] at h
  obtain ⟨_, _, rfl, ⟨_, rfl, w1, q1⟩, rfl⟩ := h
  obtain ⟨a1, rfl, e1⟩ := bB M.aE.cO q1
  exact ⟨⟨a1⟩, rfl, ⟨⟨by simpa using w1, e1⟩⟩⟩
def M.aM.sz (x : M.aM) : Nat := (x.Buckets.length + aD M.aE.sz x.Buckets)
theorem M.aM.kX (x : M.aM) (hx : M.aM.ok x) : Sz (sD x) (M.aM.sz x) := by
  intro l a b
  unfold sD M.aM.sz
  exact (Sz.call (M.aCC.kX _ hx.Buckets)) l a b
theorem M.aM.kL (x : M.aM) (hx : M.aM.ok x) (hs : M.aM.sz x ≤ 1048576) : tI x = some x := by
  unfold M.aM.sz at hs
  unfold tI
  rw [M.aCC.kL _ hx.Buckets (by omega), Option.bind_some]
theorem M.aM.jU (x : M.aM) (hx : M.aM.ok x) : tC x x = some true := by
  simp [tC, M.aCC.jU _ hx.Buckets]
structure M.aN.ok (x : M.aN) : Prop where
  Path : x.Path.size ≤ maxLen
  Version : inI x.Version
def M.aN.sh : List Shp := [.str, .int .i64]
theorem M.aN.cO (d : List D) (h : lU M.aN.sh d) : ∃ x, d = M.aN.en x ∧ M.aN.ok x := by
  simp only [M.aN.sh, lU, Has] at h
  obtain ⟨_, _, rfl, ⟨a1, rfl, w1⟩, _, _, rfl, ⟨a2, rfl, w2⟩, rfl⟩ := h
  exact ⟨⟨a1, a2⟩, rfl, ⟨w1, wf_i64 w2⟩⟩
def M.aN.sz (x : M.aN) : Nat := x.Path.size
theorem M.aN.kX (x : M.aN) (hx : M.aN.ok x) : Sz (uP x) (M.aN.sz x) := by
  intro l a b
  unfold uP M.aN.sz
  exact (Sz.str hx.Path) l a b
theorem M.aN.kL (x : M.aN) (hx : M.aN.ok x) (hs : M.aN.sz x ≤ 1048576) : wB x = some x := by
  unfold M.aN.sz at hs
  unfold wB
  rfl
theorem M.aN.jU (x : M.aN) (hx : M.aN.ok x) : uT x x = some true := by
  simp [uT]
theorem M.aB0.kX (xs : List M.aN) (hx : (xs.length ≤ maxLen ∧ ∀ y ∈ xs, M.aN.ok y)) : Sz (tN xs) ((xs.length + aD M.aN.sz xs)) := by
  intro l a b
  unfold tN
  exact (Sz.aEB hx.1 (fun x h => M.aN.kX x (hx.2 x h)) (fun _ _ _ => rfl)) l a b
theorem M.aB0.kL (xs : List M.aN) (hx : (xs.length ≤ maxLen ∧ ∀ y ∈ xs, M.aN.ok y)) (hs : (xs.length + aD M.aN.sz xs) ≤ 1048576) : rZ xs = some xs := by
  have hm := le_max hx.1
  unfold rZ
  rw [aAe (by omega) (by omega), Option.bind_some]
  refine zE hx.1 (fun n k r hk hr => ?_) (fun n r => ?_) fuel 0 _ (by unfold fuel; omega) (by omega) (by simp) (by simp)
  · simp only [jI]
    rw [if_pos (bA hk), aO hk, Option.bind_some, M.aN.kL _ (hx.2 _ (List.getElem_mem hk)) (by have := cQ (f := M.aN.sz) (List.getElem_mem hk); omega), Option.bind_some, aO (by omega), Option.bind_some, bD (by omega), Int.toNat_natCast]
  · simp only [jI]
    rw [if_neg (by rw [aP]; simp)]
theorem M.aB0.jU (xs : List M.aN) (hx : (xs.length ≤ maxLen ∧ ∀ y ∈ xs, M.aN.ok y)) : rO xs xs = some true := by
  have hm := le_max hx.1
  unfold rO
  rw [if_neg (by simp)]
  refine zH hx.1 (fun n k hk => ?_) (fun n => ?_) fuel 0 (by unfold fuel; omega) (by omega)
  · simp only [jB]
    rw [if_pos (bA hk), aO hk]
    simp [bD (show k < 9223372036854775807 by omega), M.aN.jU _ (hx.2 _ (List.getElem_mem hk))]
  · simp only [jB]
    rw [if_neg (by rw [aP]; simp)]
structure M.Instr.ok (x : M.Instr) : Prop where
  Kind : inI x.Kind
  R : inI x.R
  N : inI x.N
  Text : x.Text.size ≤ maxLen
def M.Instr.sh : List Shp := [.int .i64, .int .i64, .int .i64, .str]
theorem M.Instr.cO (d : List D) (h : lU M.Instr.sh d) : ∃ x, d = M.Instr.en x ∧ M.Instr.ok x := by
  simp only [M.Instr.sh, lU, Has] at h
  obtain ⟨_, _, rfl, ⟨a1, rfl, w1⟩, _, _, rfl, ⟨a2, rfl, w2⟩, _, _, rfl, ⟨a3, rfl, w3⟩, _, _, rfl, ⟨a4, rfl, w4⟩, rfl⟩ := h
  exact ⟨⟨a1, a2, a3, a4⟩, rfl, ⟨wf_i64 w1, wf_i64 w2, wf_i64 w3, w4⟩⟩
def M.Instr.sz (x : M.Instr) : Nat := x.Text.size
theorem M.Instr.kX (x : M.Instr) (hx : M.Instr.ok x) : Sz (zA x) (M.Instr.sz x) := by
  intro l a b
  unfold zA M.Instr.sz
  exact (Sz.str hx.Text) l a b
theorem M.Instr.kL (x : M.Instr) (hx : M.Instr.ok x) (hs : M.Instr.sz x ≤ 1048576) : xW x = some x := by
  unfold M.Instr.sz at hs
  unfold xW
  rfl
theorem M.Instr.jU (x : M.Instr) (hx : M.Instr.ok x) : xB x x = some true := by
  simp [xB]
theorem M.aDc.kX (xs : List M.Instr) (hx : (xs.length ≤ maxLen ∧ ∀ y ∈ xs, M.Instr.ok y)) : Sz (vU xs) ((xs.length + aD M.Instr.sz xs)) := by
  intro l a b
  unfold vU
  exact (Sz.aEB hx.1 (fun x h => M.Instr.kX x (hx.2 x h)) (fun _ _ _ => rfl)) l a b
theorem M.aDc.kL (xs : List M.Instr) (hx : (xs.length ≤ maxLen ∧ ∀ y ∈ xs, M.Instr.ok y)) (hs : (xs.length + aD M.Instr.sz xs) ≤ 1048576) : vE xs = some xs := by
  have hm := le_max hx.1
  unfold vE
  rw [aAe (by omega) (by omega), Option.bind_some]
  refine zE hx.1 (fun n k r hk hr => ?_) (fun n r => ?_) fuel 0 _ (by unfold fuel; omega) (by omega) (by simp) (by simp)
  · simp only [jZ]
    rw [if_pos (bA hk), aO hk, Option.bind_some, M.Instr.kL _ (hx.2 _ (List.getElem_mem hk)) (by have := cQ (f := M.Instr.sz) (List.getElem_mem hk); omega), Option.bind_some, aO (by omega), Option.bind_some, bD (by omega), Int.toNat_natCast]
  · simp only [jZ]
    rw [if_neg (by rw [aP]; simp)]
theorem M.aDc.jU (xs : List M.Instr) (hx : (xs.length ≤ maxLen ∧ ∀ y ∈ xs, M.Instr.ok y)) : wC xs xs = some true := by
  have hm := le_max hx.1
  unfold wC
  rw [if_neg (by simp)]
  refine zH hx.1 (fun n k hk => ?_) (fun n => ?_) fuel 0 (by unfold fuel; omega) (by omega)
  · simp only [kB]
    rw [if_pos (bA hk), aO hk]
    simp [bD (show k < 9223372036854775807 by omega), M.Instr.jU _ (hx.2 _ (List.getElem_mem hk))]
  · simp only [kB]
    rw [if_neg (by rw [aP]; simp)]
theorem M.aJd.kX (xs : List Int) (hx : okI xs) : Sz (aAJ xs) (xs.length) := by
  intro l a b
  unfold aAJ
  exact (Sz.str hx.1) l a b
theorem M.aJd.kL (xs : List Int) (hx : okI xs) (hs : xs.length ≤ 1048576) : aAb xs = some xs := by
  have hm := le_max hx.1
  unfold aAb
  rw [aAe (by omega) (by omega), Option.bind_some]
  refine zE hx.1 (fun n k r hk hr => ?_) (fun n r => ?_) fuel 0 _ (by unfold fuel; omega) (by omega) (by simp) (by simp)
  · simp only [mU]
    rw [if_pos (bA hk), aO hk, Option.bind_some, aO (by omega), Option.bind_some, bD (by omega), Int.toNat_natCast]
  · simp only [mU]
    rw [if_neg (by rw [aP]; simp)]
theorem M.aJd.jU (xs : List Int) (hx : okI xs) : aAQ xs xs = some true := by
  have hm := le_max hx.1
  unfold aAQ
  rw [if_neg (by simp)]
  refine zH hx.1 (fun n k hk => ?_) (fun n => ?_) fuel 0 (by unfold fuel; omega) (by omega)
  · simp only [mY]
    rw [if_pos (bA hk), aO hk]
    simp [bD (show k < 9223372036854775807 by omega)]
  · simp only [mY]
    rw [if_neg (by rw [aP]; simp)]
structure M.Machine.ok (x : M.Machine) : Prop where
  Script : (x.Script.length ≤ maxLen ∧ ∀ y ∈ x.Script, M.Instr.ok y)
  Pc : inI x.Pc
  Regs : okI x.Regs
  Steps : inI x.Steps
def M.Machine.sh : List Shp := [.sl M.Instr.sh, .int .i64, .sl [.int .i64], .int .i64, .bool, .bool]
theorem M.Machine.cO (d : List D) (h : lU M.Machine.sh d) : ∃ x, d = M.Machine.en x ∧ M.Machine.ok x := by
  simp only [M.Machine.sh, lU, Has] at h
  obtain ⟨_, _, rfl, ⟨_, rfl, w1, q1⟩, _, _, rfl, ⟨a2, rfl, w2⟩, _, _, rfl, ⟨_, rfl, w3, q3⟩, _, _, rfl, ⟨a4, rfl, w4⟩, _, _, rfl, ⟨a5, rfl⟩, _, _, rfl, ⟨a6, rfl⟩, rfl⟩ := h
  obtain ⟨a1, rfl, e1⟩ := bB M.Instr.cO q1
  obtain ⟨a3, rfl, e3⟩ := bB aNO q3
  exact ⟨⟨a1, a2, a3, a4, a5, a6⟩, rfl, ⟨⟨by simpa using w1, e1⟩, wf_i64 w2, ⟨by simpa using w3, e3⟩, wf_i64 w4⟩⟩
def M.Machine.sz (x : M.Machine) : Nat := (x.Script.length + aD M.Instr.sz x.Script) + (x.Regs.length)
theorem M.Machine.kX (x : M.Machine) (hx : M.Machine.ok x) : Sz (tA x) (M.Machine.sz x) := by
  intro l a b
  unfold tA M.Machine.sz
  exact (Sz.qZ (M.aDc.kX _ hx.Script) (Sz.call (M.aJd.kX _ hx.Regs))) l a b
theorem M.Machine.kL (x : M.Machine) (hx : M.Machine.ok x) (hs : M.Machine.sz x ≤ 1048576) : sZ x = some x := by
  unfold M.Machine.sz at hs
  unfold sZ
  rw [M.aDc.kL _ hx.Script (by omega), Option.bind_some, M.aJd.kL _ hx.Regs (by omega), Option.bind_some]
theorem M.Machine.jU (x : M.Machine) (hx : M.Machine.ok x) : tK x x = some true := by
  simp [tK, M.aDc.jU _ hx.Script, M.aJd.jU _ hx.Regs]
structure M.bG.ok (x : M.bG) : Prop where
  Id : inI x.Id
  Site : x.Site.size ≤ maxLen
  Top : x.Top.size ≤ maxLen
  Version : inI x.Version
  aN : (x.aN.length ≤ maxLen ∧ ∀ y ∈ x.aN, M.aN.ok y)
  Machine : M.Machine.ok x.Machine
def M.bG.sh : List Shp := [.int .i64, .str, .str, .int .i64, .sl M.aN.sh, .sl M.Instr.sh, .int .i64, .sl [.int .i64], .int .i64, .bool, .bool]
theorem M.bG.cO (d : List D) (h : lU M.bG.sh d) : ∃ x, d = M.bG.en x ∧ M.bG.ok x := by
  simp only [M.bG.sh, lU, Has] at h
  obtain ⟨_, _, rfl, ⟨a1, rfl, w1⟩, _, _, rfl, ⟨a2, rfl, w2⟩, _, _, rfl, ⟨a3, rfl, w3⟩, _, _, rfl, ⟨a4, rfl, w4⟩, _, _, rfl, ⟨_, rfl, w5, q5⟩, _, _, rfl, ⟨_, rfl, w6, q6⟩, _, _, rfl, ⟨a7, rfl, w7⟩, _, _, rfl, ⟨_, rfl, w8, q8⟩, _, _, rfl, ⟨a9, rfl, w9⟩, _, _, rfl, ⟨a10, rfl⟩, _, _, rfl, ⟨a11, rfl⟩, rfl⟩ := h
  obtain ⟨a5, rfl, e5⟩ := bB M.aN.cO q5
  obtain ⟨a6, rfl, e6⟩ := bB M.Instr.cO q6
  obtain ⟨a8, rfl, e8⟩ := bB aNO q8
  exact ⟨⟨a1, a2, a3, a4, a5, ⟨a6, a7, a8, a9, a10, a11⟩⟩, rfl, ⟨wf_i64 w1, w2, w3, wf_i64 w4, ⟨by simpa using w5, e5⟩, ⟨⟨by simpa using w6, e6⟩, wf_i64 w7, ⟨by simpa using w8, e8⟩, wf_i64 w9⟩⟩⟩
def M.bG.sz (x : M.bG) : Nat := x.Site.size + (x.Top.size + ((x.aN.length + aD M.aN.sz x.aN) + (M.Machine.sz x.Machine)))
theorem M.bG.kX (x : M.bG) (hx : M.bG.ok x) : Sz (aAB x) (M.bG.sz x) := by
  intro l a b
  unfold aAB M.bG.sz
  exact (Sz.aBh hx.Site (Sz.aBh hx.Top (Sz.qZ (M.aB0.kX _ hx.aN) (Sz.call (M.Machine.kX _ hx.Machine))))) l a b
theorem M.bG.kL (x : M.bG) (hx : M.bG.ok x) (hs : M.bG.sz x ≤ 1048576) : aAf x = some x := by
  unfold M.bG.sz at hs
  unfold aAf
  rw [M.aB0.kL _ hx.aN (by omega), Option.bind_some, M.Machine.kL _ hx.Machine (by omega), Option.bind_some]
theorem M.bG.jU (x : M.bG) (hx : M.bG.ok x) : aAp x x = some true := by
  simp [aAp, M.aB0.jU _ hx.aN, M.Machine.jU _ hx.Machine]
theorem M.aHn.kX (xs : List M.bG) (hx : (xs.length ≤ maxLen ∧ ∀ y ∈ xs, M.bG.ok y)) : Sz (yG xs) ((xs.length + aD M.bG.sz xs)) := by
  intro l a b
  unfold yG
  exact (Sz.aEB hx.1 (fun x h => M.bG.kX x (hx.2 x h)) (fun _ _ _ => rfl)) l a b
theorem M.aHn.kL (xs : List M.bG) (hx : (xs.length ≤ maxLen ∧ ∀ y ∈ xs, M.bG.ok y)) (hs : (xs.length + aD M.bG.sz xs) ≤ 1048576) : xN xs = some xs := by
  have hm := le_max hx.1
  unfold xN
  rw [aAe (by omega) (by omega), Option.bind_some]
  refine zE hx.1 (fun n k r hk hr => ?_) (fun n r => ?_) fuel 0 _ (by unfold fuel; omega) (by omega) (by simp) (by simp)
  · simp only [lH]
    rw [if_pos (bA hk), aO hk, Option.bind_some, M.bG.kL _ (hx.2 _ (List.getElem_mem hk)) (by have := cQ (f := M.bG.sz) (List.getElem_mem hk); omega), Option.bind_some, aO (by omega), Option.bind_some, bD (by omega), Int.toNat_natCast]
  · simp only [lH]
    rw [if_neg (by rw [aP]; simp)]
theorem M.aHn.jU (xs : List M.bG) (hx : (xs.length ≤ maxLen ∧ ∀ y ∈ xs, M.bG.ok y)) : xI xs xs = some true := by
  have hm := le_max hx.1
  unfold xI
  rw [if_neg (by simp)]
  refine zH hx.1 (fun n k hk => ?_) (fun n => ?_) fuel 0 (by unfold fuel; omega) (by omega)
  · simp only [lG]
    rw [if_pos (bA hk), aO hk]
    simp [bD (show k < 9223372036854775807 by omega), M.bG.jU _ (hx.2 _ (List.getElem_mem hk))]
  · simp only [lG]
    rw [if_neg (by rw [aP]; simp)]
structure M.bK.ok (x : M.bK) : Prop where
  Name : x.Name.size ≤ maxLen
  bG : inI x.bG
def M.bK.sh : List Shp := [.str, .int .i64, .bool, .bool]
theorem M.bK.cO (d : List D) (h : lU M.bK.sh d) : ∃ x, d = M.bK.en x ∧ M.bK.ok x := by
  simp only [M.bK.sh, lU, Has] at h
  obtain ⟨_, _, rfl, ⟨a1, rfl, w1⟩, _, _, rfl, ⟨a2, rfl, w2⟩, _, _, rfl, ⟨a3, rfl⟩, _, _, rfl, ⟨a4, rfl⟩, rfl⟩ := h
  exact ⟨⟨a1, a2, a3, a4⟩, rfl, ⟨w1, wf_i64 w2⟩⟩
def M.bK.sz (x : M.bK) : Nat := x.Name.size
theorem M.bK.kX (x : M.bK) (hx : M.bK.ok x) : Sz (aAg x) (M.bK.sz x) := by
  intro l a b
  unfold aAg M.bK.sz
  exact (Sz.str hx.Name) l a b
theorem M.bK.kL (x : M.bK) (hx : M.bK.ok x) (hs : M.bK.sz x ≤ 1048576) : aAk x = some x := by
  unfold M.bK.sz at hs
  unfold aAk
  rfl
theorem M.bK.jU (x : M.bK) (hx : M.bK.ok x) : zR x x = some true := by
  simp [zR]
theorem M.aHl.kX (xs : List M.bK) (hx : (xs.length ≤ maxLen ∧ ∀ y ∈ xs, M.bK.ok y)) : Sz (xX xs) ((xs.length + aD M.bK.sz xs)) := by
  intro l a b
  unfold xX
  exact (Sz.aEB hx.1 (fun x h => M.bK.kX x (hx.2 x h)) (fun _ _ _ => rfl)) l a b
theorem M.aHl.kL (xs : List M.bK) (hx : (xs.length ≤ maxLen ∧ ∀ y ∈ xs, M.bK.ok y)) (hs : (xs.length + aD M.bK.sz xs) ≤ 1048576) : xS xs = some xs := by
  have hm := le_max hx.1
  unfold xS
  rw [aAe (by omega) (by omega), Option.bind_some]
  refine zE hx.1 (fun n k r hk hr => ?_) (fun n r => ?_) fuel 0 _ (by unfold fuel; omega) (by omega) (by simp) (by simp)
  · simp only [lD]
    rw [if_pos (bA hk), aO hk, Option.bind_some, M.bK.kL _ (hx.2 _ (List.getElem_mem hk)) (by have := cQ (f := M.bK.sz) (List.getElem_mem hk); omega), Option.bind_some, aO (by omega), Option.bind_some, bD (by omega), Int.toNat_natCast]
  · simp only [lD]
    rw [if_neg (by rw [aP]; simp)]
theorem M.aHl.jU (xs : List M.bK) (hx : (xs.length ≤ maxLen ∧ ∀ y ∈ xs, M.bK.ok y)) : yD xs xs = some true := by
  have hm := le_max hx.1
  unfold yD
  rw [if_neg (by simp)]
  refine zH hx.1 (fun n k hk => ?_) (fun n => ?_) fuel 0 (by unfold fuel; omega) (by omega)
  · simp only [lL]
    rw [if_pos (bA hk), aO hk]
    simp [bD (show k < 9223372036854775807 by omega), M.bK.jU _ (hx.2 _ (List.getElem_mem hk))]
  · simp only [lL]
    rw [if_neg (by rw [aP]; simp)]
structure M.aF.ok (x : M.aF) : Prop where
  Locks : (x.Locks.length ≤ maxLen ∧ ∀ y ∈ x.Locks, M.bK.ok y)
def M.aF.sh : List Shp := [.sl M.bK.sh]
theorem M.aF.cO (d : List D) (h : lU M.aF.sh d) : ∃ x, d = M.aF.en x ∧ M.aF.ok x := by
  simp only [M.aF.sh, lU, Has] at h
  obtain ⟨_, _, rfl, ⟨_, rfl, w1, q1⟩, rfl⟩ := h
  obtain ⟨a1, rfl, e1⟩ := bB M.bK.cO q1
  exact ⟨⟨a1⟩, rfl, ⟨⟨by simpa using w1, e1⟩⟩⟩
def M.aF.sz (x : M.aF) : Nat := (x.Locks.length + aD M.bK.sz x.Locks)
theorem M.aF.kX (x : M.aF) (hx : M.aF.ok x) : Sz (oA x) (M.aF.sz x) := by
  intro l a b
  unfold oA M.aF.sz
  exact (Sz.call (M.aHl.kX _ hx.Locks)) l a b
theorem M.aF.kL (x : M.aF) (hx : M.aF.ok x) (hs : M.aF.sz x ≤ 1048576) : oH x = some x := by
  unfold M.aF.sz at hs
  unfold oH
  rw [M.aHl.kL _ hx.Locks (by omega), Option.bind_some]
theorem M.aF.jU (x : M.aF) (hx : M.aF.ok x) : oI x x = some true := by
  simp [oI, M.aHl.jU _ hx.Locks]
structure M.fD.ok (x : M.fD) : Prop where
  To : inI x.To
  From : inI x.From
  N : inI x.N
def M.fD.sh : List Shp := [.int .i64, .int .i64, .int .i64]
theorem M.fD.cO (d : List D) (h : lU M.fD.sh d) : ∃ x, d = M.fD.en x ∧ M.fD.ok x := by
  simp only [M.fD.sh, lU, Has] at h
  obtain ⟨_, _, rfl, ⟨a1, rfl, w1⟩, _, _, rfl, ⟨a2, rfl, w2⟩, _, _, rfl, ⟨a3, rfl, w3⟩, rfl⟩ := h
  exact ⟨⟨a1, a2, a3⟩, rfl, ⟨wf_i64 w1, wf_i64 w2, wf_i64 w3⟩⟩
theorem M.fD.kL (x : M.fD) (hx : M.fD.ok x) : aAS x = some x := by
  unfold aAS
  rfl
theorem M.fD.jU (x : M.fD) (hx : M.fD.ok x) : aAC x x = some true := by
  simp [aAC]
theorem M.aHr.kX (xs : List M.fD) (hx : (xs.length ≤ maxLen ∧ ∀ y ∈ xs, M.fD.ok y)) : Sz (yH xs) (xs.length) := by
  intro l a b
  unfold yH
  exact (Sz.str hx.1) l a b
theorem M.aHr.kL (xs : List M.fD) (hx : (xs.length ≤ maxLen ∧ ∀ y ∈ xs, M.fD.ok y)) (hs : xs.length ≤ 1048576) : yO xs = some xs := by
  have hm := le_max hx.1
  unfold yO
  rw [aAe (by omega) (by omega), Option.bind_some]
  refine zE hx.1 (fun n k r hk hr => ?_) (fun n r => ?_) fuel 0 _ (by unfold fuel; omega) (by omega) (by simp) (by simp)
  · simp only [lQ]
    rw [if_pos (bA hk), aO hk, Option.bind_some, M.fD.kL _ (hx.2 _ (List.getElem_mem hk)), Option.bind_some, aO (by omega), Option.bind_some, bD (by omega), Int.toNat_natCast]
  · simp only [lQ]
    rw [if_neg (by rw [aP]; simp)]
theorem M.aHr.jU (xs : List M.fD) (hx : (xs.length ≤ maxLen ∧ ∀ y ∈ xs, M.fD.ok y)) : yL xs xs = some true := by
  have hm := le_max hx.1
  unfold yL
  rw [if_neg (by simp)]
  refine zH hx.1 (fun n k hk => ?_) (fun n => ?_) fuel 0 (by unfold fuel; omega) (by omega)
  · simp only [lR]
    rw [if_pos (bA hk), aO hk]
    simp [bD (show k < 9223372036854775807 by omega), M.fD.jU _ (hx.2 _ (List.getElem_mem hk))]
  · simp only [lR]
    rw [if_neg (by rw [aP]; simp)]
structure M.Channel.ok (x : M.Channel) : Prop where
  Mails : (x.Mails.length ≤ maxLen ∧ ∀ y ∈ x.Mails, M.fD.ok y)
def M.Channel.sh : List Shp := [.sl M.fD.sh]
theorem M.Channel.cO (d : List D) (h : lU M.Channel.sh d) : ∃ x, d = M.Channel.en x ∧ M.Channel.ok x := by
  simp only [M.Channel.sh, lU, Has] at h
  obtain ⟨_, _, rfl, ⟨_, rfl, w1, q1⟩, rfl⟩ := h
  obtain ⟨a1, rfl, e1⟩ := bB M.fD.cO q1
  exact ⟨⟨a1⟩, rfl, ⟨⟨by simpa using w1, e1⟩⟩⟩
def M.Channel.sz (x : M.Channel) : Nat := x.Mails.length
theorem M.Channel.kX (x : M.Channel) (hx : M.Channel.ok x) : Sz (sC x) (M.Channel.sz x) := by
  intro l a b
  unfold sC M.Channel.sz
  exact (Sz.call (M.aHr.kX _ hx.Mails)) l a b
theorem M.Channel.kL (x : M.Channel) (hx : M.Channel.ok x) (hs : M.Channel.sz x ≤ 1048576) : sE x = some x := by
  unfold M.Channel.sz at hs
  unfold sE
  rw [M.aHr.kL _ hx.Mails (by omega), Option.bind_some]
theorem M.Channel.jU (x : M.Channel) (hx : M.Channel.ok x) : tB x x = some true := by
  simp [tB, M.aHr.jU _ hx.Mails]
theorem M.aAm.kX (xs : List ByteArray) (hx : okS xs) : Sz (rP xs) ((xs.length + aD ByteArray.size xs)) := by
  intro l a b
  unfold rP
  exact (Sz.strs hx (fun _ _ _ => rfl)) l a b
theorem M.aAm.kL (xs : List ByteArray) (hx : okS xs) (hs : (xs.length + aD ByteArray.size xs) ≤ 1048576) : sR xs = some xs := by
  have hm := le_max hx.1
  unfold sR
  rw [aAe (by omega) (by omega), Option.bind_some]
  refine zE hx.1 (fun n k r hk hr => ?_) (fun n r => ?_) fuel 0 _ (by unfold fuel; omega) (by omega) (by simp) (by simp)
  · simp only [jM]
    rw [if_pos (bA hk), aO hk, Option.bind_some, aO (by omega), Option.bind_some, bD (by omega), Int.toNat_natCast]
  · simp only [jM]
    rw [if_neg (by rw [aP]; simp)]
theorem M.aAm.jU (xs : List ByteArray) (hx : okS xs) : rU xs xs = some true := by
  have hm := le_max hx.1
  unfold rU
  rw [if_neg (by simp)]
  refine zH hx.1 (fun n k hk => ?_) (fun n => ?_) fuel 0 (by unfold fuel; omega) (by omega)
  · simp only [jF]
    rw [if_pos (bA hk), aO hk]
    simp [bD (show k < 9223372036854775807 by omega)]
  · simp only [jF]
    rw [if_neg (by rw [aP]; simp)]
structure M.Site.ok (x : M.Site) : Prop where
  Name : x.Name.size ≤ maxLen
  Version : inI x.Version
  Files : okS x.Files
def M.Site.sh : List Shp := [.str, .int .i64, .sl [.str], .bool]
theorem M.Site.cO (d : List D) (h : lU M.Site.sh d) : ∃ x, d = M.Site.en x ∧ M.Site.ok x := by
  simp only [M.Site.sh, lU, Has] at h
  obtain ⟨_, _, rfl, ⟨a1, rfl, w1⟩, _, _, rfl, ⟨a2, rfl, w2⟩, _, _, rfl, ⟨_, rfl, w3, q3⟩, _, _, rfl, ⟨a4, rfl⟩, rfl⟩ := h
  obtain ⟨a3, rfl, e3⟩ := bB aOU q3
  exact ⟨⟨a1, a2, a3, a4⟩, rfl, ⟨w1, wf_i64 w2, ⟨by simpa using w3, e3⟩⟩⟩
def M.Site.sz (x : M.Site) : Nat := x.Name.size + ((x.Files.length + aD ByteArray.size x.Files))
theorem M.Site.kX (x : M.Site) (hx : M.Site.ok x) : Sz (aAi x) (M.Site.sz x) := by
  intro l a b
  unfold aAi M.Site.sz
  exact (Sz.aBh hx.Name (Sz.call (M.aAm.kX _ hx.Files))) l a b
theorem M.Site.kL (x : M.Site) (hx : M.Site.ok x) (hs : M.Site.sz x ≤ 1048576) : aAL x = some x := by
  unfold M.Site.sz at hs
  unfold aAL
  rw [M.aAm.kL _ hx.Files (by omega), Option.bind_some]
theorem M.Site.jU (x : M.Site) (hx : M.Site.ok x) : aAo x x = some true := by
  simp [aAo, M.aAm.jU _ hx.Files]
theorem M.aH0.kX (xs : List M.Site) (hx : (xs.length ≤ maxLen ∧ ∀ y ∈ xs, M.Site.ok y)) : Sz (xD xs) ((xs.length + aD M.Site.sz xs)) := by
  intro l a b
  unfold xD
  exact (Sz.aEB hx.1 (fun x h => M.Site.kX x (hx.2 x h)) (fun _ _ _ => rfl)) l a b
theorem M.aH0.kL (xs : List M.Site) (hx : (xs.length ≤ maxLen ∧ ∀ y ∈ xs, M.Site.ok y)) (hs : (xs.length + aD M.Site.sz xs) ≤ 1048576) : xV xs = some xs := by
  have hm := le_max hx.1
  unfold xV
  rw [aAe (by omega) (by omega), Option.bind_some]
  refine zE hx.1 (fun n k r hk hr => ?_) (fun n r => ?_) fuel 0 _ (by unfold fuel; omega) (by omega) (by simp) (by simp)
  · simp only [lK]
    rw [if_pos (bA hk), aO hk, Option.bind_some, M.Site.kL _ (hx.2 _ (List.getElem_mem hk)) (by have := cQ (f := M.Site.sz) (List.getElem_mem hk); omega), Option.bind_some, aO (by omega), Option.bind_some, bD (by omega), Int.toNat_natCast]
  · simp only [lK]
    rw [if_neg (by rw [aP]; simp)]
theorem M.aH0.jU (xs : List M.Site) (hx : (xs.length ≤ maxLen ∧ ∀ y ∈ xs, M.Site.ok y)) : yC xs xs = some true := by
  have hm := le_max hx.1
  unfold yC
  rw [if_neg (by simp)]
  refine zH hx.1 (fun n k hk => ?_) (fun n => ?_) fuel 0 (by unfold fuel; omega) (by omega)
  · simp only [lT]
    rw [if_pos (bA hk), aO hk]
    simp [bD (show k < 9223372036854775807 by omega), M.Site.jU _ (hx.2 _ (List.getElem_mem hk))]
  · simp only [lT]
    rw [if_neg (by rw [aP]; simp)]
structure M.aJ.ok (x : M.aJ) : Prop where
  Device : inI x.Device
  Seq : inI x.Seq
def M.aJ.sh : List Shp := [.int .i64, .int .i64]
theorem M.aJ.cO (d : List D) (h : lU M.aJ.sh d) : ∃ x, d = M.aJ.en x ∧ M.aJ.ok x := by
  simp only [M.aJ.sh, lU, Has] at h
  obtain ⟨_, _, rfl, ⟨a1, rfl, w1⟩, _, _, rfl, ⟨a2, rfl, w2⟩, rfl⟩ := h
  exact ⟨⟨a1, a2⟩, rfl, ⟨wf_i64 w1, wf_i64 w2⟩⟩
theorem M.aJ.kL (x : M.aJ) (hx : M.aJ.ok x) : tP x = some x := by
  unfold tP
  rfl
theorem M.aJ.jU (x : M.aJ) (hx : M.aJ.ok x) : rY x x = some true := by
  simp [rY]
theorem M.aBK.kX (xs : List M.aJ) (hx : (xs.length ≤ maxLen ∧ ∀ y ∈ xs, M.aJ.ok y)) : Sz (qL xs) (xs.length) := by
  intro l a b
  unfold qL
  exact (Sz.str hx.1) l a b
theorem M.aBK.kL (xs : List M.aJ) (hx : (xs.length ≤ maxLen ∧ ∀ y ∈ xs, M.aJ.ok y)) (hs : xs.length ≤ 1048576) : qN xs = some xs := by
  have hm := le_max hx.1
  unfold qN
  rw [aAe (by omega) (by omega), Option.bind_some]
  refine zE hx.1 (fun n k r hk hr => ?_) (fun n r => ?_) fuel 0 _ (by unfold fuel; omega) (by omega) (by simp) (by simp)
  · simp only [iQ]
    rw [if_pos (bA hk), aO hk, Option.bind_some, M.aJ.kL _ (hx.2 _ (List.getElem_mem hk)), Option.bind_some, aO (by omega), Option.bind_some, bD (by omega), Int.toNat_natCast]
  · simp only [iQ]
    rw [if_neg (by rw [aP]; simp)]
theorem M.aBK.jU (xs : List M.aJ) (hx : (xs.length ≤ maxLen ∧ ∀ y ∈ xs, M.aJ.ok y)) : qI xs xs = some true := by
  have hm := le_max hx.1
  unfold qI
  rw [if_neg (by simp)]
  refine zH hx.1 (fun n k hk => ?_) (fun n => ?_) fuel 0 (by unfold fuel; omega) (by omega)
  · simp only [iO]
    rw [if_pos (bA hk), aO hk]
    simp [bD (show k < 9223372036854775807 by omega), M.aJ.jU _ (hx.2 _ (List.getElem_mem hk))]
  · simp only [iO]
    rw [if_neg (by rw [aP]; simp)]
structure M.Server.ok (x : M.Server) : Prop where
  aH : M.aH.ok x.aH
  aJ : (x.aJ.length ≤ maxLen ∧ ∀ y ∈ x.aJ, M.aJ.ok y)
  Changes : (x.Changes.length ≤ maxLen ∧ ∀ y ∈ x.Changes, M.aW.ok y)
def M.Server.sh : List Shp := [.str, .sl M.Item.sh, .int .i64, .sl M.aJ.sh, .sl M.aW.sh]
theorem M.Server.cO (d : List D) (h : lU M.Server.sh d) : ∃ x, d = M.Server.en x ∧ M.Server.ok x := by
  simp only [M.Server.sh, lU, Has] at h
  obtain ⟨_, _, rfl, ⟨a1, rfl, w1⟩, _, _, rfl, ⟨_, rfl, w2, q2⟩, _, _, rfl, ⟨a3, rfl, w3⟩, _, _, rfl, ⟨_, rfl, w4, q4⟩, _, _, rfl, ⟨_, rfl, w5, q5⟩, rfl⟩ := h
  obtain ⟨a2, rfl, e2⟩ := bB M.Item.cO q2
  obtain ⟨a4, rfl, e4⟩ := bB M.aJ.cO q4
  obtain ⟨a5, rfl, e5⟩ := bB M.aW.cO q5
  exact ⟨⟨⟨a1, a2, a3⟩, a4, a5⟩, rfl, ⟨⟨w1, ⟨by simpa using w2, e2⟩, wf_i64 w3⟩, ⟨by simpa using w4, e4⟩, ⟨by simpa using w5, e5⟩⟩⟩
def M.Server.sz (x : M.Server) : Nat := M.aH.sz x.aH + (x.aJ.length + ((x.Changes.length + aD M.aW.sz x.Changes)))
theorem M.Server.kX (x : M.Server) (hx : M.Server.ok x) : Sz (vG x) (M.Server.sz x) := by
  intro l a b
  unfold vG M.Server.sz
  exact (Sz.qZ (M.aH.kX _ hx.aH) (Sz.qZ (M.aBK.kX _ hx.aJ) (Sz.call (M.aBk.kX _ hx.Changes)))) l a b
theorem M.Server.kL (x : M.Server) (hx : M.Server.ok x) (hs : M.Server.sz x ≤ 1048576) : uU x = some x := by
  unfold M.Server.sz at hs
  unfold uU
  rw [M.aH.kL _ hx.aH (by omega), Option.bind_some, M.aBK.kL _ hx.aJ (by omega), Option.bind_some, M.aBk.kL _ hx.Changes (by omega), Option.bind_some]
theorem M.Server.jU (x : M.Server) (hx : M.Server.ok x) : uK x x = some true := by
  simp [uK, M.aH.jU _ hx.aH, M.aBK.jU _ hx.aJ, M.aBk.jU _ hx.Changes]
theorem M.aB5.kX (xs : List M.Server) (hx : (xs.length ≤ maxLen ∧ ∀ y ∈ xs, M.Server.ok y)) : Sz (tM xs) ((xs.length + aD M.Server.sz xs)) := by
  intro l a b
  unfold tM
  exact (Sz.aEB hx.1 (fun x h => M.Server.kX x (hx.2 x h)) (fun _ _ _ => rfl)) l a b
theorem M.aB5.kL (xs : List M.Server) (hx : (xs.length ≤ maxLen ∧ ∀ y ∈ xs, M.Server.ok y)) (hs : (xs.length + aD M.Server.sz xs) ≤ 1048576) : sU xs = some xs := by
  have hm := le_max hx.1
  unfold sU
  rw [aAe (by omega) (by omega), Option.bind_some]
  refine zE hx.1 (fun n k r hk hr => ?_) (fun n r => ?_) fuel 0 _ (by unfold fuel; omega) (by omega) (by simp) (by simp)
  · simp only [jG]
    rw [if_pos (bA hk), aO hk, Option.bind_some, M.Server.kL _ (hx.2 _ (List.getElem_mem hk)) (by have := cQ (f := M.Server.sz) (List.getElem_mem hk); omega), Option.bind_some, aO (by omega), Option.bind_some, bD (by omega), Int.toNat_natCast]
  · simp only [jG]
    rw [if_neg (by rw [aP]; simp)]
theorem M.aB5.jU (xs : List M.Server) (hx : (xs.length ≤ maxLen ∧ ∀ y ∈ xs, M.Server.ok y)) : rV xs xs = some true := by
  have hm := le_max hx.1
  unfold rV
  rw [if_neg (by simp)]
  refine zH hx.1 (fun n k hk => ?_) (fun n => ?_) fuel 0 (by unfold fuel; omega) (by omega)
  · simp only [jC]
    rw [if_pos (bA hk), aO hk]
    simp [bD (show k < 9223372036854775807 by omega), M.Server.jU _ (hx.2 _ (List.getElem_mem hk))]
  · simp only [jC]
    rw [if_neg (by rw [aP]; simp)]
structure M.World.ok (x : M.World) : Prop where
  Now : inI x.Now
  Device : inI x.Device
  aM : M.aM.ok x.aM
  Pages : (x.Pages.length ≤ maxLen ∧ ∀ y ∈ x.Pages, M.bG.ok y)
  NextPage : inI x.NextPage
  Locks : M.aF.ok x.Locks
  Channel : M.Channel.ok x.Channel
  Sites : (x.Sites.length ≤ maxLen ∧ ∀ y ∈ x.Sites, M.Site.ok y)
  Servers : (x.Servers.length ≤ maxLen ∧ ∀ y ∈ x.Servers, M.Server.ok y)
def M.World.sh : List Shp := [.int .i64, .bool, .int .i64, .sl M.aE.sh, .sl M.bG.sh, .int .i64, .sl M.bK.sh, .sl M.fD.sh, .sl M.Site.sh, .sl M.Server.sh]
theorem M.World.cO (d : List D) (h : lU M.World.sh d) : ∃ x, d = M.World.en x ∧ M.World.ok x := by
  simp only [M.World.sh, lU, Has] at h
  obtain ⟨_, _, rfl, ⟨a1, rfl, w1⟩, _, _, rfl, ⟨a2, rfl⟩, _, _, rfl, ⟨a3, rfl, w3⟩, _, _, rfl, ⟨_, rfl, w4, q4⟩, _, _, rfl, ⟨_, rfl, w5, q5⟩, _, _, rfl, ⟨a6, rfl, w6⟩, _, _, rfl, ⟨_, rfl, w7, q7⟩, _, _, rfl, ⟨_, rfl, w8, q8⟩, _, _, rfl, ⟨_, rfl, w9, q9⟩, _, _, rfl, ⟨_, rfl, w10, q10⟩, rfl⟩ := h
  obtain ⟨a4, rfl, e4⟩ := bB M.aE.cO q4
  obtain ⟨a5, rfl, e5⟩ := bB M.bG.cO q5
  obtain ⟨a7, rfl, e7⟩ := bB M.bK.cO q7
  obtain ⟨a8, rfl, e8⟩ := bB M.fD.cO q8
  obtain ⟨a9, rfl, e9⟩ := bB M.Site.cO q9
  obtain ⟨a10, rfl, e10⟩ := bB M.Server.cO q10
  exact ⟨⟨a1, a2, a3, ⟨a4⟩, a5, a6, ⟨a7⟩, ⟨a8⟩, a9, a10⟩, rfl, ⟨wf_i64 w1, wf_i64 w3, ⟨⟨by simpa using w4, e4⟩⟩, ⟨by simpa using w5, e5⟩, wf_i64 w6, ⟨⟨by simpa using w7, e7⟩⟩, ⟨⟨by simpa using w8, e8⟩⟩, ⟨by simpa using w9, e9⟩, ⟨by simpa using w10, e10⟩⟩⟩
def M.World.sz (x : M.World) : Nat := M.aM.sz x.aM + ((x.Pages.length + aD M.bG.sz x.Pages) + (M.aF.sz x.Locks + (M.Channel.sz x.Channel + ((x.Sites.length + aD M.Site.sz x.Sites) + ((x.Servers.length + aD M.Server.sz x.Servers))))))
theorem M.World.kX (x : M.World) (hx : M.World.ok x) : Sz (yW x) (M.World.sz x) := by
  intro l a b
  unfold yW M.World.sz
  exact (Sz.qZ (M.aM.kX _ hx.aM) (Sz.qZ (M.aHn.kX _ hx.Pages) (Sz.qZ (M.aF.kX _ hx.Locks) (Sz.qZ (M.Channel.kX _ hx.Channel) (Sz.qZ (M.aH0.kX _ hx.Sites) (Sz.call (M.aB5.kX _ hx.Servers))))))) l a b
theorem M.World.kL (x : M.World) (hx : M.World.ok x) (hs : M.World.sz x ≤ 1048576) : lA x = some x := by
  unfold M.World.sz at hs
  unfold lA
  rw [M.aM.kL _ hx.aM (by omega), Option.bind_some, M.aHn.kL _ hx.Pages (by omega), Option.bind_some, M.aF.kL _ hx.Locks (by omega), Option.bind_some, M.Channel.kL _ hx.Channel (by omega), Option.bind_some, M.aH0.kL _ hx.Sites (by omega), Option.bind_some, M.aB5.kL _ hx.Servers (by omega), Option.bind_some]
theorem M.World.jU (x : M.World) (hx : M.World.ok x) : kZ x x = some true := by
  simp [kZ, M.aM.jU _ hx.aM, M.aHn.jU _ hx.Pages, M.aF.jU _ hx.Locks, M.Channel.jU _ hx.Channel, M.aH0.jU _ hx.Sites, M.aB5.jU _ hx.Servers]
end Go.Proofs.YtecmnmaaopkdfaaGreat.gen
