/-
  Helper text. No conditions.
-/
import Derived.Test.YtecmnmaaopkdfaaGreatPageSendMod
namespace Go.Proofs.YtecmnmaaopkdfaaGreat.gen
open Go Go.Sh
set_option linter.unusedVariables false
set_option linter.unusedSimpArgs false
structure M.Registration.ok (x : M.Registration) : Prop where
  Site : x.Site.size ≤ maxLen
  Installing : inI x.Installing
  Waiting : inI x.Waiting
  Active : inI x.Active
def M.Registration.sh : List Shp := [.str, .int .i64, .int .i64, .int .i64]
theorem M.Registration.cO (d : List D) (h : mD M.Registration.sh d) : ∃ x, d = M.Registration.en x ∧ M.Registration.ok x := by
  simp only [M.Registration.sh, mD, Has] at h
  obtain ⟨_, _, rfl, ⟨a1, rfl, w1⟩, _, _, rfl, ⟨a2, rfl, w2⟩, _, _, rfl, ⟨a3, rfl, w3⟩, _, _, rfl, ⟨a4, rfl, w4⟩, rfl⟩ := h
  exact ⟨⟨a1, a2, a3, a4⟩, rfl, ⟨w1, wf_i64 w2, wf_i64 w3, wf_i64 w4⟩⟩
def M.Registration.sz (x : M.Registration) : Nat := x.Site.size
theorem M.Registration.kT (x : M.Registration) (hx : M.Registration.ok x) : Sz (jP x) (M.Registration.sz x) := by
  intro l a b
  unfold jP M.Registration.sz
  exact (Sz.str hx.Site) l a b
theorem M.Registration.kG (x : M.Registration) (hx : M.Registration.ok x) (hs : M.Registration.sz x ≤ 1048576) : jN x = some x := by
  unfold M.Registration.sz at hs
  unfold jN
  rfl
theorem M.Registration.jQ (x : M.Registration) (hx : M.Registration.ok x) : jM x x = some true := by
  simp [jM]
theorem M.aB9.kT (xs : List Int) (hx : okB xs) : Sz (tR xs) (xs.length) := by
  intro l a b
  unfold tR
  exact (Sz.str hx.1) l a b
theorem M.aB9.kG (xs : List Int) (hx : okB xs) (hs : xs.length ≤ 1048576) : tV xs = some xs := by
  have hm := le_max hx.1
  unfold tV
  rw [zM (by omega) (by omega), Option.bind_some]
  refine zF hx.1 (fun n k r hk hr => ?_) (fun n r => ?_) fuel 0 _ (by unfold fuel; omega) (by omega) (by simp) (by simp)
  · simp only [kZ]
    rw [if_pos (bA hk), aN hk, Option.bind_some, aN (by omega), Option.bind_some, bE (by omega), Int.toNat_natCast]
  · simp only [kZ]
    rw [if_neg (by rw [aO]; simp)]
theorem M.aB9.jQ (xs : List Int) (hx : okB xs) : tT xs xs = some true := by
  have hm := le_max hx.1
  unfold tT
  rw [if_neg (by simp)]
  refine zH hx.1 (fun n k hk => ?_) (fun n => ?_) fuel 0 (by unfold fuel; omega) (by omega)
  · simp only [kY]
    rw [if_pos (bA hk), aN hk]
    simp [bE (show k < 9223372036854775807 by omega)]
  · simp only [kY]
    rw [if_neg (by rw [aO]; simp)]
structure M.Response.ok (x : M.Response) : Prop where
  Type_ : inI x.Type_
  Status : inI x.Status
  Version : inI x.Version
  Body : okB x.Body
def M.Response.sh : List Shp := [.int .i64, .int .i64, .int .i64, .sl [.int .u8], .bool]
theorem M.Response.cO (d : List D) (h : mD M.Response.sh d) : ∃ x, d = M.Response.en x ∧ M.Response.ok x := by
  simp only [M.Response.sh, mD, Has] at h
  obtain ⟨_, _, rfl, ⟨a1, rfl, w1⟩, _, _, rfl, ⟨a2, rfl, w2⟩, _, _, rfl, ⟨a3, rfl, w3⟩, _, _, rfl, ⟨_, rfl, w4, q4⟩, _, _, rfl, ⟨a5, rfl⟩, rfl⟩ := h
  obtain ⟨a4, rfl, e4⟩ := bB aMU q4
  exact ⟨⟨a1, a2, a3, a4, a5⟩, rfl, ⟨wf_i64 w1, wf_i64 w2, wf_i64 w3, ⟨by simpa using w4, e4⟩⟩⟩
def M.Response.sz (x : M.Response) : Nat := x.Body.length
theorem M.Response.kT (x : M.Response) (hx : M.Response.ok x) : Sz (qO x) (M.Response.sz x) := by
  intro l a b
  unfold qO M.Response.sz
  exact (Sz.call (M.aB9.kT _ hx.Body)) l a b
theorem M.Response.kG (x : M.Response) (hx : M.Response.ok x) (hs : M.Response.sz x ≤ 1048576) : oZ x = some x := by
  unfold M.Response.sz at hs
  unfold oZ
  rw [M.aB9.kG _ hx.Body (by omega), Option.bind_some]
theorem M.Response.jQ (x : M.Response) (hx : M.Response.ok x) : qB x x = some true := by
  simp [qB, M.aB9.jQ _ hx.Body]
structure M.Cached.ok (x : M.Cached) : Prop where
  Site : x.Site.size ≤ maxLen
  Path : x.Path.size ≤ maxLen
  Response : M.Response.ok x.Response
def M.Cached.sh : List Shp := [.str, .str, .int .i64, .int .i64, .int .i64, .sl [.int .u8], .bool]
theorem M.Cached.cO (d : List D) (h : mD M.Cached.sh d) : ∃ x, d = M.Cached.en x ∧ M.Cached.ok x := by
  simp only [M.Cached.sh, mD, Has] at h
  obtain ⟨_, _, rfl, ⟨a1, rfl, w1⟩, _, _, rfl, ⟨a2, rfl, w2⟩, _, _, rfl, ⟨a3, rfl, w3⟩, _, _, rfl, ⟨a4, rfl, w4⟩, _, _, rfl, ⟨a5, rfl, w5⟩, _, _, rfl, ⟨_, rfl, w6, q6⟩, _, _, rfl, ⟨a7, rfl⟩, rfl⟩ := h
  obtain ⟨a6, rfl, e6⟩ := bB aMU q6
  exact ⟨⟨a1, a2, ⟨a3, a4, a5, a6, a7⟩⟩, rfl, ⟨w1, w2, ⟨wf_i64 w3, wf_i64 w4, wf_i64 w5, ⟨by simpa using w6, e6⟩⟩⟩⟩
def M.Cached.sz (x : M.Cached) : Nat := x.Site.size + (x.Path.size + (M.Response.sz x.Response))
theorem M.Cached.kT (x : M.Cached) (hx : M.Cached.ok x) : Sz (uN x) (M.Cached.sz x) := by
  intro l a b
  unfold uN M.Cached.sz
  exact (Sz.aBe hx.Site (Sz.aBe hx.Path (Sz.call (M.Response.kT _ hx.Response)))) l a b
theorem M.Cached.kG (x : M.Cached) (hx : M.Cached.ok x) (hs : M.Cached.sz x ≤ 1048576) : uX x = some x := by
  unfold M.Cached.sz at hs
  unfold uX
  rw [M.Response.kG _ hx.Response (by omega), Option.bind_some]
theorem M.Cached.jQ (x : M.Cached) (hx : M.Cached.ok x) : vJ x x = some true := by
  simp [vJ, M.Response.jQ _ hx.Response]
theorem M.aBy.kT (xs : List M.Cached) (hx : (xs.length ≤ maxLen ∧ ∀ y ∈ xs, M.Cached.ok y)) : Sz (rM xs) ((xs.length + aD M.Cached.sz xs)) := by
  intro l a b
  unfold rM
  exact (Sz.aEH hx.1 (fun x h => M.Cached.kT x (hx.2 x h)) (fun _ _ _ => rfl)) l a b
theorem M.aBy.kG (xs : List M.Cached) (hx : (xs.length ≤ maxLen ∧ ∀ y ∈ xs, M.Cached.ok y)) (hs : (xs.length + aD M.Cached.sz xs) ≤ 1048576) : sM xs = some xs := by
  have hm := le_max hx.1
  unfold sM
  rw [zM (by omega) (by omega), Option.bind_some]
  refine zF hx.1 (fun n k r hk hr => ?_) (fun n r => ?_) fuel 0 _ (by unfold fuel; omega) (by omega) (by simp) (by simp)
  · simp only [iV]
    rw [if_pos (bA hk), aN hk, Option.bind_some, M.Cached.kG _ (hx.2 _ (List.getElem_mem hk)) (by have := dB (f := M.Cached.sz) (List.getElem_mem hk); omega), Option.bind_some, aN (by omega), Option.bind_some, bE (by omega), Int.toNat_natCast]
  · simp only [iV]
    rw [if_neg (by rw [aO]; simp)]
theorem M.aBy.jQ (xs : List M.Cached) (hx : (xs.length ≤ maxLen ∧ ∀ y ∈ xs, M.Cached.ok y)) : sI xs xs = some true := by
  have hm := le_max hx.1
  unfold sI
  rw [if_neg (by simp)]
  refine zH hx.1 (fun n k hk => ?_) (fun n => ?_) fuel 0 (by unfold fuel; omega) (by omega)
  · simp only [jA]
    rw [if_pos (bA hk), aN hk]
    simp [bE (show k < 9223372036854775807 by omega), M.Cached.jQ _ (hx.2 _ (List.getElem_mem hk))]
  · simp only [jA]
    rw [if_neg (by rw [aO]; simp)]
structure M.Cache.ok (x : M.Cache) : Prop where
  Version : inI x.Version
  Entries : (x.Entries.length ≤ maxLen ∧ ∀ y ∈ x.Entries, M.Cached.ok y)
def M.Cache.sh : List Shp := [.int .i64, .sl M.Cached.sh]
theorem M.Cache.cO (d : List D) (h : mD M.Cache.sh d) : ∃ x, d = M.Cache.en x ∧ M.Cache.ok x := by
  simp only [M.Cache.sh, mD, Has] at h
  obtain ⟨_, _, rfl, ⟨a1, rfl, w1⟩, _, _, rfl, ⟨_, rfl, w2, q2⟩, rfl⟩ := h
  obtain ⟨a2, rfl, e2⟩ := bB M.Cached.cO q2
  exact ⟨⟨a1, a2⟩, rfl, ⟨wf_i64 w1, ⟨by simpa using w2, e2⟩⟩⟩
def M.Cache.sz (x : M.Cache) : Nat := (x.Entries.length + aD M.Cached.sz x.Entries)
theorem M.Cache.kT (x : M.Cache) (hx : M.Cache.ok x) : Sz (yG x) (M.Cache.sz x) := by
  intro l a b
  unfold yG M.Cache.sz
  exact (Sz.call (M.aBy.kT _ hx.Entries)) l a b
theorem M.Cache.kG (x : M.Cache) (hx : M.Cache.ok x) (hs : M.Cache.sz x ≤ 1048576) : xI x = some x := by
  unfold M.Cache.sz at hs
  unfold xI
  rw [M.aBy.kG _ hx.Entries (by omega), Option.bind_some]
theorem M.Cache.jQ (x : M.Cache) (hx : M.Cache.ok x) : yJ x x = some true := by
  simp [yJ, M.aBy.jQ _ hx.Entries]
theorem M.aDg.kT (xs : List M.Cache) (hx : (xs.length ≤ maxLen ∧ ∀ y ∈ xs, M.Cache.ok y)) : Sz (uZ xs) ((xs.length + aD M.Cache.sz xs)) := by
  intro l a b
  unfold uZ
  exact (Sz.aEH hx.1 (fun x h => M.Cache.kT x (hx.2 x h)) (fun _ _ _ => rfl)) l a b
theorem M.aDg.kG (xs : List M.Cache) (hx : (xs.length ≤ maxLen ∧ ∀ y ∈ xs, M.Cache.ok y)) (hs : (xs.length + aD M.Cache.sz xs) ≤ 1048576) : vE xs = some xs := by
  have hm := le_max hx.1
  unfold vE
  rw [zM (by omega) (by omega), Option.bind_some]
  refine zF hx.1 (fun n k r hk hr => ?_) (fun n r => ?_) fuel 0 _ (by unfold fuel; omega) (by omega) (by simp) (by simp)
  · simp only [kB]
    rw [if_pos (bA hk), aN hk, Option.bind_some, M.Cache.kG _ (hx.2 _ (List.getElem_mem hk)) (by have := dB (f := M.Cache.sz) (List.getElem_mem hk); omega), Option.bind_some, aN (by omega), Option.bind_some, bE (by omega), Int.toNat_natCast]
  · simp only [kB]
    rw [if_neg (by rw [aO]; simp)]
theorem M.aDg.jQ (xs : List M.Cache) (hx : (xs.length ≤ maxLen ∧ ∀ y ∈ xs, M.Cache.ok y)) : uP xs xs = some true := by
  have hm := le_max hx.1
  unfold uP
  rw [if_neg (by simp)]
  refine zH hx.1 (fun n k hk => ?_) (fun n => ?_) fuel 0 (by unfold fuel; omega) (by omega)
  · simp only [kF]
    rw [if_pos (bA hk), aN hk]
    simp [bE (show k < 9223372036854775807 by omega), M.Cache.jQ _ (hx.2 _ (List.getElem_mem hk))]
  · simp only [kF]
    rw [if_neg (by rw [aO]; simp)]
structure M.aT.ok (x : M.aT) : Prop where
  Caches : (x.Caches.length ≤ maxLen ∧ ∀ y ∈ x.Caches, M.Cache.ok y)
def M.aT.sh : List Shp := [.sl M.Cache.sh]
theorem M.aT.cO (d : List D) (h : mD M.aT.sh d) : ∃ x, d = M.aT.en x ∧ M.aT.ok x := by
  simp only [M.aT.sh, mD, Has] at h
  obtain ⟨_, _, rfl, ⟨_, rfl, w1, q1⟩, rfl⟩ := h
  obtain ⟨a1, rfl, e1⟩ := bB M.Cache.cO q1
  exact ⟨⟨a1⟩, rfl, ⟨⟨by simpa using w1, e1⟩⟩⟩
def M.aT.sz (x : M.aT) : Nat := (x.Caches.length + aD M.Cache.sz x.Caches)
theorem M.aT.kT (x : M.aT) (hx : M.aT.ok x) : Sz (oV x) (M.aT.sz x) := by
  intro l a b
  unfold oV M.aT.sz
  exact (Sz.call (M.aDg.kT _ hx.Caches)) l a b
theorem M.aT.kG (x : M.aT) (hx : M.aT.ok x) (hs : M.aT.sz x ≤ 1048576) : pI x = some x := by
  unfold M.aT.sz at hs
  unfold pI
  rw [M.aDg.kG _ hx.Caches (by omega), Option.bind_some]
theorem M.aT.jQ (x : M.aT) (hx : M.aT.ok x) : qJ x x = some true := by
  simp [qJ, M.aDg.jQ _ hx.Caches]
structure M.Key.ok (x : M.Key) : Prop where
  Kind : inI x.Kind
  N : inI x.N
  Text : x.Text.size ≤ maxLen
def M.Key.sh : List Shp := [.int .i64, .int .i64, .str]
theorem M.Key.cO (d : List D) (h : mD M.Key.sh d) : ∃ x, d = M.Key.en x ∧ M.Key.ok x := by
  simp only [M.Key.sh, mD, Has] at h
  obtain ⟨_, _, rfl, ⟨a1, rfl, w1⟩, _, _, rfl, ⟨a2, rfl, w2⟩, _, _, rfl, ⟨a3, rfl, w3⟩, rfl⟩ := h
  exact ⟨⟨a1, a2, a3⟩, rfl, ⟨wf_i64 w1, wf_i64 w2, w3⟩⟩
def M.Key.sz (x : M.Key) : Nat := x.Text.size
theorem M.Key.kT (x : M.Key) (hx : M.Key.ok x) : Sz (zE x) (M.Key.sz x) := by
  intro l a b
  unfold zE M.Key.sz
  exact (Sz.str hx.Text) l a b
theorem M.Key.kG (x : M.Key) (hx : M.Key.ok x) (hs : M.Key.sz x ≤ 1048576) : zD x = some x := by
  unfold M.Key.sz at hs
  unfold zD
  rfl
theorem M.Key.jQ (x : M.Key) (hx : M.Key.ok x) : zI x x = some true := by
  simp [zI]
structure M.Field.ok (x : M.Field) : Prop where
  Name : x.Name.size ≤ maxLen
  N : inI x.N
def M.Field.sh : List Shp := [.str, .int .i64]
theorem M.Field.cO (d : List D) (h : mD M.Field.sh d) : ∃ x, d = M.Field.en x ∧ M.Field.ok x := by
  simp only [M.Field.sh, mD, Has] at h
  obtain ⟨_, _, rfl, ⟨a1, rfl, w1⟩, _, _, rfl, ⟨a2, rfl, w2⟩, rfl⟩ := h
  exact ⟨⟨a1, a2⟩, rfl, ⟨w1, wf_i64 w2⟩⟩
def M.Field.sz (x : M.Field) : Nat := x.Name.size
theorem M.Field.kT (x : M.Field) (hx : M.Field.ok x) : Sz (xB x) (M.Field.sz x) := by
  intro l a b
  unfold xB M.Field.sz
  exact (Sz.str hx.Name) l a b
theorem M.Field.kG (x : M.Field) (hx : M.Field.ok x) (hs : M.Field.sz x ≤ 1048576) : xW x = some x := by
  unfold M.Field.sz at hs
  unfold xW
  rfl
theorem M.Field.jQ (x : M.Field) (hx : M.Field.ok x) : xR x x = some true := by
  simp [xR]
theorem M.aDj.kT (xs : List M.Field) (hx : (xs.length ≤ maxLen ∧ ∀ y ∈ xs, M.Field.ok y)) : Sz (wA xs) ((xs.length + aD M.Field.sz xs)) := by
  intro l a b
  unfold wA
  exact (Sz.aEH hx.1 (fun x h => M.Field.kT x (hx.2 x h)) (fun _ _ _ => rfl)) l a b
theorem M.aDj.kG (xs : List M.Field) (hx : (xs.length ≤ maxLen ∧ ∀ y ∈ xs, M.Field.ok y)) (hs : (xs.length + aD M.Field.sz xs) ≤ 1048576) : uY xs = some xs := by
  have hm := le_max hx.1
  unfold uY
  rw [zM (by omega) (by omega), Option.bind_some]
  refine zF hx.1 (fun n k r hk hr => ?_) (fun n r => ?_) fuel 0 _ (by unfold fuel; omega) (by omega) (by simp) (by simp)
  · simp only [jV]
    rw [if_pos (bA hk), aN hk, Option.bind_some, M.Field.kG _ (hx.2 _ (List.getElem_mem hk)) (by have := dB (f := M.Field.sz) (List.getElem_mem hk); omega), Option.bind_some, aN (by omega), Option.bind_some, bE (by omega), Int.toNat_natCast]
  · simp only [jV]
    rw [if_neg (by rw [aO]; simp)]
theorem M.aDj.jQ (xs : List M.Field) (hx : (xs.length ≤ maxLen ∧ ∀ y ∈ xs, M.Field.ok y)) : vW xs xs = some true := by
  have hm := le_max hx.1
  unfold vW
  rw [if_neg (by simp)]
  refine zH hx.1 (fun n k hk => ?_) (fun n => ?_) fuel 0 (by unfold fuel; omega) (by omega)
  · simp only [jY]
    rw [if_pos (bA hk), aN hk]
    simp [bE (show k < 9223372036854775807 by omega), M.Field.jQ _ (hx.2 _ (List.getElem_mem hk))]
  · simp only [jY]
    rw [if_neg (by rw [aO]; simp)]
structure M.aU.ok (x : M.aU) : Prop where
  Fields : (x.Fields.length ≤ maxLen ∧ ∀ y ∈ x.Fields, M.Field.ok y)
def M.aU.sh : List Shp := [.sl M.Field.sh]
theorem M.aU.cO (d : List D) (h : mD M.aU.sh d) : ∃ x, d = M.aU.en x ∧ M.aU.ok x := by
  simp only [M.aU.sh, mD, Has] at h
  obtain ⟨_, _, rfl, ⟨_, rfl, w1, q1⟩, rfl⟩ := h
  obtain ⟨a1, rfl, e1⟩ := bB M.Field.cO q1
  exact ⟨⟨a1⟩, rfl, ⟨⟨by simpa using w1, e1⟩⟩⟩
def M.aU.sz (x : M.aU) : Nat := (x.Fields.length + aD M.Field.sz x.Fields)
theorem M.aU.kT (x : M.aU) (hx : M.aU.ok x) : Sz (vF x) (M.aU.sz x) := by
  intro l a b
  unfold vF M.aU.sz
  exact (Sz.call (M.aDj.kT _ hx.Fields)) l a b
theorem M.aU.kG (x : M.aU) (hx : M.aU.ok x) (hs : M.aU.sz x ≤ 1048576) : vQ x = some x := by
  unfold M.aU.sz at hs
  unfold vQ
  rw [M.aDj.kG _ hx.Fields (by omega), Option.bind_some]
theorem M.aU.jQ (x : M.aU) (hx : M.aU.ok x) : uK x x = some true := by
  simp [uK, M.aDj.jQ _ hx.Fields]
structure M.Item.ok (x : M.Item) : Prop where
  Key : M.Key.ok x.Key
  aU : M.aU.ok x.aU
def M.Item.sh : List Shp := [.int .i64, .int .i64, .str, .sl M.Field.sh]
theorem M.Item.cO (d : List D) (h : mD M.Item.sh d) : ∃ x, d = M.Item.en x ∧ M.Item.ok x := by
  simp only [M.Item.sh, mD, Has] at h
  obtain ⟨_, _, rfl, ⟨a1, rfl, w1⟩, _, _, rfl, ⟨a2, rfl, w2⟩, _, _, rfl, ⟨a3, rfl, w3⟩, _, _, rfl, ⟨_, rfl, w4, q4⟩, rfl⟩ := h
  obtain ⟨a4, rfl, e4⟩ := bB M.Field.cO q4
  exact ⟨⟨⟨a1, a2, a3⟩, ⟨a4⟩⟩, rfl, ⟨⟨wf_i64 w1, wf_i64 w2, w3⟩, ⟨⟨by simpa using w4, e4⟩⟩⟩⟩
def M.Item.sz (x : M.Item) : Nat := M.Key.sz x.Key + (M.aU.sz x.aU)
theorem M.Item.kT (x : M.Item) (hx : M.Item.ok x) : Sz (zS x) (M.Item.sz x) := by
  intro l a b
  unfold zS M.Item.sz
  exact (Sz.qY (M.Key.kT _ hx.Key) (Sz.call (M.aU.kT _ hx.aU))) l a b
theorem M.Item.kG (x : M.Item) (hx : M.Item.ok x) (hs : M.Item.sz x ≤ 1048576) : zX x = some x := by
  unfold M.Item.sz at hs
  unfold zX
  rw [M.Key.kG _ hx.Key (by omega), Option.bind_some, M.aU.kG _ hx.aU (by omega), Option.bind_some]
theorem M.Item.jQ (x : M.Item) (hx : M.Item.ok x) : aAj x x = some true := by
  simp [aAj, M.Key.jQ _ hx.Key, M.aU.jQ _ hx.aU]
theorem M.aEm.kT (xs : List M.Item) (hx : (xs.length ≤ maxLen ∧ ∀ y ∈ xs, M.Item.ok y)) : Sz (yI xs) ((xs.length + aD M.Item.sz xs)) := by
  intro l a b
  unfold yI
  exact (Sz.aEH hx.1 (fun x h => M.Item.kT x (hx.2 x h)) (fun _ _ _ => rfl)) l a b
theorem M.aEm.kG (xs : List M.Item) (hx : (xs.length ≤ maxLen ∧ ∀ y ∈ xs, M.Item.ok y)) (hs : (xs.length + aD M.Item.sz xs) ≤ 1048576) : yT xs = some xs := by
  have hm := le_max hx.1
  unfold yT
  rw [zM (by omega) (by omega), Option.bind_some]
  refine zF hx.1 (fun n k r hk hr => ?_) (fun n r => ?_) fuel 0 _ (by unfold fuel; omega) (by omega) (by simp) (by simp)
  · simp only [lA]
    rw [if_pos (bA hk), aN hk, Option.bind_some, M.Item.kG _ (hx.2 _ (List.getElem_mem hk)) (by have := dB (f := M.Item.sz) (List.getElem_mem hk); omega), Option.bind_some, aN (by omega), Option.bind_some, bE (by omega), Int.toNat_natCast]
  · simp only [lA]
    rw [if_neg (by rw [aO]; simp)]
theorem M.aEm.jQ (xs : List M.Item) (hx : (xs.length ≤ maxLen ∧ ∀ y ∈ xs, M.Item.ok y)) : xD xs xs = some true := by
  have hm := le_max hx.1
  unfold xD
  rw [if_neg (by simp)]
  refine zH hx.1 (fun n k hk => ?_) (fun n => ?_) fuel 0 (by unfold fuel; omega) (by omega)
  · simp only [lI]
    rw [if_pos (bA hk), aN hk]
    simp [bE (show k < 9223372036854775807 by omega), M.Item.jQ _ (hx.2 _ (List.getElem_mem hk))]
  · simp only [lI]
    rw [if_neg (by rw [aO]; simp)]
structure M.aG.ok (x : M.aG) : Prop where
  Name : x.Name.size ≤ maxLen
  Items : (x.Items.length ≤ maxLen ∧ ∀ y ∈ x.Items, M.Item.ok y)
  Auto : inI x.Auto
def M.aG.sh : List Shp := [.str, .sl M.Item.sh, .int .i64]
theorem M.aG.cO (d : List D) (h : mD M.aG.sh d) : ∃ x, d = M.aG.en x ∧ M.aG.ok x := by
  simp only [M.aG.sh, mD, Has] at h
  obtain ⟨_, _, rfl, ⟨a1, rfl, w1⟩, _, _, rfl, ⟨_, rfl, w2, q2⟩, _, _, rfl, ⟨a3, rfl, w3⟩, rfl⟩ := h
  obtain ⟨a2, rfl, e2⟩ := bB M.Item.cO q2
  exact ⟨⟨a1, a2, a3⟩, rfl, ⟨w1, ⟨by simpa using w2, e2⟩, wf_i64 w3⟩⟩
def M.aG.sz (x : M.aG) : Nat := x.Name.size + ((x.Items.length + aD M.Item.sz x.Items))
theorem M.aG.kT (x : M.aG) (hx : M.aG.ok x) : Sz (oH x) (M.aG.sz x) := by
  intro l a b
  unfold oH M.aG.sz
  exact (Sz.aBe hx.Name (Sz.call (M.aEm.kT _ hx.Items))) l a b
theorem M.aG.kG (x : M.aG) (hx : M.aG.ok x) (hs : M.aG.sz x ≤ 1048576) : oK x = some x := by
  unfold M.aG.sz at hs
  unfold oK
  rw [M.aEm.kG _ hx.Items (by omega), Option.bind_some]
theorem M.aG.jQ (x : M.aG) (hx : M.aG.ok x) : oG x x = some true := by
  simp [oG, M.aEm.jQ _ hx.Items]
theorem M.aEE.kT (xs : List M.aG) (hx : (xs.length ≤ maxLen ∧ ∀ y ∈ xs, M.aG.ok y)) : Sz (vG xs) ((xs.length + aD M.aG.sz xs)) := by
  intro l a b
  unfold vG
  exact (Sz.aEH hx.1 (fun x h => M.aG.kT x (hx.2 x h)) (fun _ _ _ => rfl)) l a b
theorem M.aEE.kG (xs : List M.aG) (hx : (xs.length ≤ maxLen ∧ ∀ y ∈ xs, M.aG.ok y)) (hs : (xs.length + aD M.aG.sz xs) ≤ 1048576) : wB xs = some xs := by
  have hm := le_max hx.1
  unfold wB
  rw [zM (by omega) (by omega), Option.bind_some]
  refine zF hx.1 (fun n k r hk hr => ?_) (fun n r => ?_) fuel 0 _ (by unfold fuel; omega) (by omega) (by simp) (by simp)
  · simp only [jW]
    rw [if_pos (bA hk), aN hk, Option.bind_some, M.aG.kG _ (hx.2 _ (List.getElem_mem hk)) (by have := dB (f := M.aG.sz) (List.getElem_mem hk); omega), Option.bind_some, aN (by omega), Option.bind_some, bE (by omega), Int.toNat_natCast]
  · simp only [jW]
    rw [if_neg (by rw [aO]; simp)]
theorem M.aEE.jQ (xs : List M.aG) (hx : (xs.length ≤ maxLen ∧ ∀ y ∈ xs, M.aG.ok y)) : vA xs xs = some true := by
  have hm := le_max hx.1
  unfold vA
  rw [if_neg (by simp)]
  refine zH hx.1 (fun n k hk => ?_) (fun n => ?_) fuel 0 (by unfold fuel; omega) (by omega)
  · simp only [kC]
    rw [if_pos (bA hk), aN hk]
    simp [bE (show k < 9223372036854775807 by omega), M.aG.jQ _ (hx.2 _ (List.getElem_mem hk))]
  · simp only [kC]
    rw [if_neg (by rw [aO]; simp)]
structure M.aA.ok (x : M.aA) : Prop where
  aG : x.aG.size ≤ maxLen
  Field : x.Field.size ≤ maxLen
def M.aA.sh : List Shp := [.str, .str]
theorem M.aA.cO (d : List D) (h : mD M.aA.sh d) : ∃ x, d = M.aA.en x ∧ M.aA.ok x := by
  simp only [M.aA.sh, mD, Has] at h
  obtain ⟨_, _, rfl, ⟨a1, rfl, w1⟩, _, _, rfl, ⟨a2, rfl, w2⟩, rfl⟩ := h
  exact ⟨⟨a1, a2⟩, rfl, ⟨w1, w2⟩⟩
def M.aA.sz (x : M.aA) : Nat := x.aG.size + (x.Field.size)
theorem M.aA.kT (x : M.aA) (hx : M.aA.ok x) : Sz (oT x) (M.aA.sz x) := by
  intro l a b
  unfold oT M.aA.sz
  exact (Sz.aBe hx.aG (Sz.str hx.Field)) l a b
theorem M.aA.kG (x : M.aA) (hx : M.aA.ok x) (hs : M.aA.sz x ≤ 1048576) : qN x = some x := by
  unfold M.aA.sz at hs
  unfold qN
  rfl
theorem M.aA.jQ (x : M.aA) (hx : M.aA.ok x) : qC x x = some true := by
  simp [qC]
theorem M.aAA.kT (xs : List M.aA) (hx : (xs.length ≤ maxLen ∧ ∀ y ∈ xs, M.aA.ok y)) : Sz (nT xs) ((xs.length + aD M.aA.sz xs)) := by
  intro l a b
  unfold nT
  exact (Sz.aEH hx.1 (fun x h => M.aA.kT x (hx.2 x h)) (fun _ _ _ => rfl)) l a b
theorem M.aAA.kG (xs : List M.aA) (hx : (xs.length ≤ maxLen ∧ ∀ y ∈ xs, M.aA.ok y)) (hs : (xs.length + aD M.aA.sz xs) ≤ 1048576) : oD xs = some xs := by
  have hm := le_max hx.1
  unfold oD
  rw [zM (by omega) (by omega), Option.bind_some]
  refine zF hx.1 (fun n k r hk hr => ?_) (fun n r => ?_) fuel 0 _ (by unfold fuel; omega) (by omega) (by simp) (by simp)
  · simp only [hZ]
    rw [if_pos (bA hk), aN hk, Option.bind_some, M.aA.kG _ (hx.2 _ (List.getElem_mem hk)) (by have := dB (f := M.aA.sz) (List.getElem_mem hk); omega), Option.bind_some, aN (by omega), Option.bind_some, bE (by omega), Int.toNat_natCast]
  · simp only [hZ]
    rw [if_neg (by rw [aO]; simp)]
theorem M.aAA.jQ (xs : List M.aA) (hx : (xs.length ≤ maxLen ∧ ∀ y ∈ xs, M.aA.ok y)) : nY xs xs = some true := by
  have hm := le_max hx.1
  unfold nY
  rw [if_neg (by simp)]
  refine zH hx.1 (fun n k hk => ?_) (fun n => ?_) fuel 0 (by unfold fuel; omega) (by omega)
  · simp only [iA]
    rw [if_pos (bA hk), aN hk]
    simp [bE (show k < 9223372036854775807 by omega), M.aA.jQ _ (hx.2 _ (List.getElem_mem hk))]
  · simp only [iA]
    rw [if_neg (by rw [aO]; simp)]
structure M.Database.ok (x : M.Database) : Prop where
  Name : x.Name.size ≤ maxLen
  Version : inI x.Version
  Stores : (x.Stores.length ≤ maxLen ∧ ∀ y ∈ x.Stores, M.aG.ok y)
  Unique : (x.Unique.length ≤ maxLen ∧ ∀ y ∈ x.Unique, M.aA.ok y)
def M.Database.sh : List Shp := [.str, .int .i64, .sl M.aG.sh, .sl M.aA.sh]
theorem M.Database.cO (d : List D) (h : mD M.Database.sh d) : ∃ x, d = M.Database.en x ∧ M.Database.ok x := by
  simp only [M.Database.sh, mD, Has] at h
  obtain ⟨_, _, rfl, ⟨a1, rfl, w1⟩, _, _, rfl, ⟨a2, rfl, w2⟩, _, _, rfl, ⟨_, rfl, w3, q3⟩, _, _, rfl, ⟨_, rfl, w4, q4⟩, rfl⟩ := h
  obtain ⟨a3, rfl, e3⟩ := bB M.aG.cO q3
  obtain ⟨a4, rfl, e4⟩ := bB M.aA.cO q4
  exact ⟨⟨a1, a2, a3, a4⟩, rfl, ⟨w1, wf_i64 w2, ⟨by simpa using w3, e3⟩, ⟨by simpa using w4, e4⟩⟩⟩
def M.Database.sz (x : M.Database) : Nat := x.Name.size + ((x.Stores.length + aD M.aG.sz x.Stores) + ((x.Unique.length + aD M.aA.sz x.Unique)))
theorem M.Database.kT (x : M.Database) (hx : M.Database.ok x) : Sz (qF x) (M.Database.sz x) := by
  intro l a b
  unfold qF M.Database.sz
  exact (Sz.aBe hx.Name (Sz.qY (M.aEE.kT _ hx.Stores) (Sz.call (M.aAA.kT _ hx.Unique)))) l a b
theorem M.Database.kG (x : M.Database) (hx : M.Database.ok x) (hs : M.Database.sz x ≤ 1048576) : pA x = some x := by
  unfold M.Database.sz at hs
  unfold pA
  rw [M.aEE.kG _ hx.Stores (by omega), Option.bind_some, M.aAA.kG _ hx.Unique (by omega), Option.bind_some]
theorem M.Database.jQ (x : M.Database) (hx : M.Database.ok x) : qI x x = some true := by
  simp [qI, M.aEE.jQ _ hx.Stores, M.aAA.jQ _ hx.Unique]
structure M.bG.ok (x : M.bG) : Prop where
  Base : M.Database.ok x.Base
  Log : okB x.Log
  Count : inI x.Count
def M.bG.sh : List Shp := [.str, .int .i64, .sl M.aG.sh, .sl M.aA.sh, .sl [.int .u8], .int .i64]
theorem M.bG.cO (d : List D) (h : mD M.bG.sh d) : ∃ x, d = M.bG.en x ∧ M.bG.ok x := by
  simp only [M.bG.sh, mD, Has] at h
  obtain ⟨_, _, rfl, ⟨a1, rfl, w1⟩, _, _, rfl, ⟨a2, rfl, w2⟩, _, _, rfl, ⟨_, rfl, w3, q3⟩, _, _, rfl, ⟨_, rfl, w4, q4⟩, _, _, rfl, ⟨_, rfl, w5, q5⟩, _, _, rfl, ⟨a6, rfl, w6⟩, rfl⟩ := h
  obtain ⟨a3, rfl, e3⟩ := bB M.aG.cO q3
  obtain ⟨a4, rfl, e4⟩ := bB M.aA.cO q4
  obtain ⟨a5, rfl, e5⟩ := bB aMU q5
  exact ⟨⟨⟨a1, a2, a3, a4⟩, a5, a6⟩, rfl, ⟨⟨w1, wf_i64 w2, ⟨by simpa using w3, e3⟩, ⟨by simpa using w4, e4⟩⟩, ⟨by simpa using w5, e5⟩, wf_i64 w6⟩⟩
def M.bG.sz (x : M.bG) : Nat := M.Database.sz x.Base + (x.Log.length)
theorem M.bG.kT (x : M.bG) (hx : M.bG.ok x) : Sz (aAL x) (M.bG.sz x) := by
  intro l a b
  unfold aAL M.bG.sz
  exact (Sz.qY (M.Database.kT _ hx.Base) (Sz.call (M.aB9.kT _ hx.Log))) l a b
theorem M.bG.kG (x : M.bG) (hx : M.bG.ok x) (hs : M.bG.sz x ≤ 1048576) : aAQ x = some x := by
  unfold M.bG.sz at hs
  unfold aAQ
  rw [M.Database.kG _ hx.Base (by omega), Option.bind_some, M.aB9.kG _ hx.Log (by omega), Option.bind_some]
theorem M.bG.jQ (x : M.bG) (hx : M.bG.ok x) : zO x x = some true := by
  simp [zO, M.Database.jQ _ hx.Base, M.aB9.jQ _ hx.Log]
structure M.aW.ok (x : M.aW) : Prop where
  Device : inI x.Device
  Seq : inI x.Seq
  Key : M.Key.ok x.Key
  Field : x.Field.size ≤ maxLen
  N : inI x.N
def M.aW.sh : List Shp := [.int .i64, .int .i64, .int .i64, .int .i64, .str, .str, .int .i64]
theorem M.aW.cO (d : List D) (h : mD M.aW.sh d) : ∃ x, d = M.aW.en x ∧ M.aW.ok x := by
  simp only [M.aW.sh, mD, Has] at h
  obtain ⟨_, _, rfl, ⟨a1, rfl, w1⟩, _, _, rfl, ⟨a2, rfl, w2⟩, _, _, rfl, ⟨a3, rfl, w3⟩, _, _, rfl, ⟨a4, rfl, w4⟩, _, _, rfl, ⟨a5, rfl, w5⟩, _, _, rfl, ⟨a6, rfl, w6⟩, _, _, rfl, ⟨a7, rfl, w7⟩, rfl⟩ := h
  exact ⟨⟨a1, a2, ⟨a3, a4, a5⟩, a6, a7⟩, rfl, ⟨wf_i64 w1, wf_i64 w2, ⟨wf_i64 w3, wf_i64 w4, w5⟩, w6, wf_i64 w7⟩⟩
def M.aW.sz (x : M.aW) : Nat := M.Key.sz x.Key + (x.Field.size)
theorem M.aW.kT (x : M.aW) (hx : M.aW.ok x) : Sz (yU x) (M.aW.sz x) := by
  intro l a b
  unfold yU M.aW.sz
  exact (Sz.qY (M.Key.kT _ hx.Key) (Sz.str hx.Field)) l a b
theorem M.aW.kG (x : M.aW) (hx : M.aW.ok x) (hs : M.aW.sz x ≤ 1048576) : yW x = some x := by
  unfold M.aW.sz at hs
  unfold yW
  rw [M.Key.kG _ hx.Key (by omega), Option.bind_some]
theorem M.aW.jQ (x : M.aW) (hx : M.aW.ok x) : xX x x = some true := by
  simp [xX, M.Key.jQ _ hx.Key]
theorem M.aBX.kT (xs : List M.aW) (hx : (xs.length ≤ maxLen ∧ ∀ y ∈ xs, M.aW.ok y)) : Sz (pZ xs) ((xs.length + aD M.aW.sz xs)) := by
  intro l a b
  unfold pZ
  exact (Sz.aEH hx.1 (fun x h => M.aW.kT x (hx.2 x h)) (fun _ _ _ => rfl)) l a b
theorem M.aBX.kG (xs : List M.aW) (hx : (xs.length ≤ maxLen ∧ ∀ y ∈ xs, M.aW.ok y)) (hs : (xs.length + aD M.aW.sz xs) ≤ 1048576) : qP xs = some xs := by
  have hm := le_max hx.1
  unfold qP
  rw [zM (by omega) (by omega), Option.bind_some]
  refine zF hx.1 (fun n k r hk hr => ?_) (fun n r => ?_) fuel 0 _ (by unfold fuel; omega) (by omega) (by simp) (by simp)
  · simp only [jX]
    rw [if_pos (bA hk), aN hk, Option.bind_some, M.aW.kG _ (hx.2 _ (List.getElem_mem hk)) (by have := dB (f := M.aW.sz) (List.getElem_mem hk); omega), Option.bind_some, aN (by omega), Option.bind_some, bE (by omega), Int.toNat_natCast]
  · simp only [jX]
    rw [if_neg (by rw [aO]; simp)]
theorem M.aBX.jQ (xs : List M.aW) (hx : (xs.length ≤ maxLen ∧ ∀ y ∈ xs, M.aW.ok y)) : qH xs xs = some true := by
  have hm := le_max hx.1
  unfold qH
  rw [if_neg (by simp)]
  refine zH hx.1 (fun n k hk => ?_) (fun n => ?_) fuel 0 (by unfold fuel; omega) (by omega)
  · simp only [kH]
    rw [if_pos (bA hk), aN hk]
    simp [bE (show k < 9223372036854775807 by omega), M.aW.jQ _ (hx.2 _ (List.getElem_mem hk))]
  · simp only [kH]
    rw [if_neg (by rw [aO]; simp)]
structure M.aV.ok (x : M.aV) : Prop where
  Device : inI x.Device
  Next : inI x.Next
  Writes : (x.Writes.length ≤ maxLen ∧ ∀ y ∈ x.Writes, M.aW.ok y)
def M.aV.sh : List Shp := [.int .i64, .int .i64, .sl M.aW.sh]
theorem M.aV.cO (d : List D) (h : mD M.aV.sh d) : ∃ x, d = M.aV.en x ∧ M.aV.ok x := by
  simp only [M.aV.sh, mD, Has] at h
  obtain ⟨_, _, rfl, ⟨a1, rfl, w1⟩, _, _, rfl, ⟨a2, rfl, w2⟩, _, _, rfl, ⟨_, rfl, w3, q3⟩, rfl⟩ := h
  obtain ⟨a3, rfl, e3⟩ := bB M.aW.cO q3
  exact ⟨⟨a1, a2, a3⟩, rfl, ⟨wf_i64 w1, wf_i64 w2, ⟨by simpa using w3, e3⟩⟩⟩
def M.aV.sz (x : M.aV) : Nat := (x.Writes.length + aD M.aW.sz x.Writes)
theorem M.aV.kT (x : M.aV) (hx : M.aV.ok x) : Sz (vM x) (M.aV.sz x) := by
  intro l a b
  unfold vM M.aV.sz
  exact (Sz.call (M.aBX.kT _ hx.Writes)) l a b
theorem M.aV.kG (x : M.aV) (hx : M.aV.ok x) (hs : M.aV.sz x ≤ 1048576) : uO x = some x := by
  unfold M.aV.sz at hs
  unfold uO
  rw [M.aBX.kG _ hx.Writes (by omega), Option.bind_some]
theorem M.aV.jQ (x : M.aV) (hx : M.aV.ok x) : uW x x = some true := by
  simp [uW, M.aBX.jQ _ hx.Writes]
structure M.Sync.ok (x : M.Sync) : Prop where
  aV : M.aV.ok x.aV
  Tries : inI x.Tries
  WaitUntil : inI x.WaitUntil
def M.Sync.sh : List Shp := [.int .i64, .int .i64, .sl M.aW.sh, .int .i64, .int .i64]
theorem M.Sync.cO (d : List D) (h : mD M.Sync.sh d) : ∃ x, d = M.Sync.en x ∧ M.Sync.ok x := by
  simp only [M.Sync.sh, mD, Has] at h
  obtain ⟨_, _, rfl, ⟨a1, rfl, w1⟩, _, _, rfl, ⟨a2, rfl, w2⟩, _, _, rfl, ⟨_, rfl, w3, q3⟩, _, _, rfl, ⟨a4, rfl, w4⟩, _, _, rfl, ⟨a5, rfl, w5⟩, rfl⟩ := h
  obtain ⟨a3, rfl, e3⟩ := bB M.aW.cO q3
  exact ⟨⟨⟨a1, a2, a3⟩, a4, a5⟩, rfl, ⟨⟨wf_i64 w1, wf_i64 w2, ⟨by simpa using w3, e3⟩⟩, wf_i64 w4, wf_i64 w5⟩⟩
def M.Sync.sz (x : M.Sync) : Nat := M.aV.sz x.aV
theorem M.Sync.kT (x : M.Sync) (hx : M.Sync.ok x) : Sz (aAW x) (M.Sync.sz x) := by
  intro l a b
  unfold aAW M.Sync.sz
  exact (Sz.call (M.aV.kT _ hx.aV)) l a b
theorem M.Sync.kG (x : M.Sync) (hx : M.Sync.ok x) (hs : M.Sync.sz x ≤ 1048576) : aAS x = some x := by
  unfold M.Sync.sz at hs
  unfold aAS
  rw [M.aV.kG _ hx.aV (by omega), Option.bind_some]
theorem M.Sync.jQ (x : M.Sync) (hx : M.Sync.ok x) : aAV x x = some true := by
  simp [aAV, M.aV.jQ _ hx.aV]
structure M.aC.ok (x : M.aC) : Prop where
  Base : M.aG.ok x.Base
  Seen : inI x.Seen
  Sync : M.Sync.ok x.Sync
def M.aC.sh : List Shp := [.str, .sl M.Item.sh, .int .i64, .int .i64, .int .i64, .int .i64, .sl M.aW.sh, .int .i64, .int .i64]
theorem M.aC.cO (d : List D) (h : mD M.aC.sh d) : ∃ x, d = M.aC.en x ∧ M.aC.ok x := by
  simp only [M.aC.sh, mD, Has] at h
  obtain ⟨_, _, rfl, ⟨a1, rfl, w1⟩, _, _, rfl, ⟨_, rfl, w2, q2⟩, _, _, rfl, ⟨a3, rfl, w3⟩, _, _, rfl, ⟨a4, rfl, w4⟩, _, _, rfl, ⟨a5, rfl, w5⟩, _, _, rfl, ⟨a6, rfl, w6⟩, _, _, rfl, ⟨_, rfl, w7, q7⟩, _, _, rfl, ⟨a8, rfl, w8⟩, _, _, rfl, ⟨a9, rfl, w9⟩, rfl⟩ := h
  obtain ⟨a2, rfl, e2⟩ := bB M.Item.cO q2
  obtain ⟨a7, rfl, e7⟩ := bB M.aW.cO q7
  exact ⟨⟨⟨a1, a2, a3⟩, a4, ⟨⟨a5, a6, a7⟩, a8, a9⟩⟩, rfl, ⟨⟨w1, ⟨by simpa using w2, e2⟩, wf_i64 w3⟩, wf_i64 w4, ⟨⟨wf_i64 w5, wf_i64 w6, ⟨by simpa using w7, e7⟩⟩, wf_i64 w8, wf_i64 w9⟩⟩⟩
def M.aC.sz (x : M.aC) : Nat := M.aG.sz x.Base + (M.Sync.sz x.Sync)
theorem M.aC.kT (x : M.aC) (hx : M.aC.ok x) : Sz (tN x) (M.aC.sz x) := by
  intro l a b
  unfold tN M.aC.sz
  exact (Sz.qY (M.aG.kT _ hx.Base) (Sz.call (M.Sync.kT _ hx.Sync))) l a b
theorem M.aC.kG (x : M.aC) (hx : M.aC.ok x) (hs : M.aC.sz x ≤ 1048576) : tG x = some x := by
  unfold M.aC.sz at hs
  unfold tG
  rw [M.aG.kG _ hx.Base (by omega), Option.bind_some, M.Sync.kG _ hx.Sync (by omega), Option.bind_some]
theorem M.aC.jQ (x : M.aC) (hx : M.aC.ok x) : sV x x = some true := by
  simp [sV, M.aG.jQ _ hx.Base, M.Sync.jQ _ hx.Sync]
structure M.aE.ok (x : M.aE) : Prop where
  Site : x.Site.size ≤ maxLen
  Top : x.Top.size ≤ maxLen
  Registration : M.Registration.ok x.Registration
  Caches : M.aT.ok x.Caches
  bG : M.bG.ok x.bG
  aC : M.aC.ok x.aC
  LastUsed : inI x.LastUsed
def M.aE.sh : List Shp := [.str, .str, .str, .int .i64, .int .i64, .int .i64, .sl M.Cache.sh, .str, .int .i64, .sl M.aG.sh, .sl M.aA.sh, .sl [.int .u8], .int .i64, .str, .sl M.Item.sh, .int .i64, .int .i64, .int .i64, .int .i64, .sl M.aW.sh, .int .i64, .int .i64, .int .i64, .bool]
theorem M.aE.cO (d : List D) (h : mD M.aE.sh d) : ∃ x, d = M.aE.en x ∧ M.aE.ok x := by
  simp only [M.aE.sh, mD, Has] at h
  obtain ⟨_, _, rfl, ⟨a1, rfl, w1⟩, _, _, rfl, ⟨a2, rfl, w2⟩, _, _, rfl, ⟨a3, rfl, w3⟩, _, _, rfl, ⟨a4, rfl, w4⟩, _, _, rfl, ⟨a5, rfl, w5⟩, _, _, rfl, ⟨a6, rfl, w6⟩, _, _, rfl, ⟨_, rfl, w7, q7⟩, _, _, rfl, ⟨a8, rfl, w8⟩, _, _, rfl, ⟨a9, rfl, w9⟩, _, _, rfl, ⟨_, rfl, w10, q10⟩, _, _, rfl, ⟨_, rfl, w11, q11⟩, _, _, rfl, ⟨_, rfl, w12, q12⟩, _, _, rfl, ⟨a13, rfl, w13⟩, _, _, rfl, ⟨a14, rfl, w14⟩, _, _, rfl, ⟨_, rfl, w15, q15⟩, _, _, rfl, ⟨a16, rfl, w16⟩, _, _, rfl, ⟨a17, rfl, w17⟩, _, _, rfl, ⟨a18, rfl, w18⟩, _, _, rfl, ⟨a19, rfl, w19⟩, _, _, rfl, ⟨_, rfl, w20, q20⟩, _, _, rfl, ⟨a21, rfl, w21⟩, _, _, rfl, ⟨a22, rfl, w22⟩, _, _, rfl, ⟨a23, rfl, w23⟩, _, _, rfl, ⟨a24, rfl⟩, rfl⟩ := h
  obtain ⟨a7, rfl, e7⟩ := bB M.Cache.cO q7
  obtain ⟨a10, rfl, e10⟩ := bB M.aG.cO q10
  obtain ⟨a11, rfl, e11⟩ := bB M.aA.cO q11
  obtain ⟨a12, rfl, e12⟩ := bB aMU q12
  obtain ⟨a15, rfl, e15⟩ := bB M.Item.cO q15
  obtain ⟨a20, rfl, e20⟩ := bB M.aW.cO q20
  exact ⟨⟨a1, a2, ⟨a3, a4, a5, a6⟩, ⟨a7⟩, ⟨⟨a8, a9, a10, a11⟩, a12, a13⟩, ⟨⟨a14, a15, a16⟩, a17, ⟨⟨a18, a19, a20⟩, a21, a22⟩⟩, a23, a24⟩, rfl, ⟨w1, w2, ⟨w3, wf_i64 w4, wf_i64 w5, wf_i64 w6⟩, ⟨⟨by simpa using w7, e7⟩⟩, ⟨⟨w8, wf_i64 w9, ⟨by simpa using w10, e10⟩, ⟨by simpa using w11, e11⟩⟩, ⟨by simpa using w12, e12⟩, wf_i64 w13⟩, ⟨⟨w14, ⟨by simpa using w15, e15⟩, wf_i64 w16⟩, wf_i64 w17, ⟨⟨wf_i64 w18, wf_i64 w19, ⟨by simpa using w20, e20⟩⟩, wf_i64 w21, wf_i64 w22⟩⟩, wf_i64 w23⟩⟩
def M.aE.sz (x : M.aE) : Nat := x.Site.size + (x.Top.size + (M.Registration.sz x.Registration + (M.aT.sz x.Caches + (M.bG.sz x.bG + (M.aC.sz x.aC)))))
theorem M.aE.kT (x : M.aE) (hx : M.aE.ok x) : Sz (wC x) (M.aE.sz x) := by
  intro l a b
  unfold wC M.aE.sz
  exact (Sz.aBe hx.Site (Sz.aBe hx.Top (Sz.qY (M.Registration.kT _ hx.Registration) (Sz.qY (M.aT.kT _ hx.Caches) (Sz.qY (M.bG.kT _ hx.bG) (Sz.call (M.aC.kT _ hx.aC))))))) l a b
theorem M.aE.kG (x : M.aE) (hx : M.aE.ok x) (hs : M.aE.sz x ≤ 1048576) : wE x = some x := by
  unfold M.aE.sz at hs
  unfold wE
  rw [M.Registration.kG _ hx.Registration (by omega), Option.bind_some, M.aT.kG _ hx.Caches (by omega), Option.bind_some, M.bG.kG _ hx.bG (by omega), Option.bind_some, M.aC.kG _ hx.aC (by omega), Option.bind_some]
theorem M.aE.jQ (x : M.aE) (hx : M.aE.ok x) : vX x x = some true := by
  simp [vX, M.Registration.jQ _ hx.Registration, M.aT.jQ _ hx.Caches, M.bG.jQ _ hx.bG, M.aC.jQ _ hx.aC]
theorem M.aB5.kT (xs : List M.aE) (hx : (xs.length ≤ maxLen ∧ ∀ y ∈ xs, M.aE.ok y)) : Sz (tB xs) ((xs.length + aD M.aE.sz xs)) := by
  intro l a b
  unfold tB
  exact (Sz.aEH hx.1 (fun x h => M.aE.kT x (hx.2 x h)) (fun _ _ _ => rfl)) l a b
theorem M.aB5.kG (xs : List M.aE) (hx : (xs.length ≤ maxLen ∧ ∀ y ∈ xs, M.aE.ok y)) (hs : (xs.length + aD M.aE.sz xs) ≤ 1048576) : sA xs = some xs := by
  have hm := le_max hx.1
  unfold sA
  rw [zM (by omega) (by omega), Option.bind_some]
  refine zF hx.1 (fun n k r hk hr => ?_) (fun n r => ?_) fuel 0 _ (by unfold fuel; omega) (by omega) (by simp) (by simp)
  · simp only [iY]
    rw [if_pos (bA hk), aN hk, Option.bind_some, M.aE.kG _ (hx.2 _ (List.getElem_mem hk)) (by have := dB (f := M.aE.sz) (List.getElem_mem hk); omega), Option.bind_some, aN (by omega), Option.bind_some, bE (by omega), Int.toNat_natCast]
  · simp only [iY]
    rw [if_neg (by rw [aO]; simp)]
theorem M.aB5.jQ (xs : List M.aE) (hx : (xs.length ≤ maxLen ∧ ∀ y ∈ xs, M.aE.ok y)) : rP xs xs = some true := by
  have hm := le_max hx.1
  unfold rP
  rw [if_neg (by simp)]
  refine zH hx.1 (fun n k hk => ?_) (fun n => ?_) fuel 0 (by unfold fuel; omega) (by omega)
  · simp only [iX]
    rw [if_pos (bA hk), aN hk]
    simp [bE (show k < 9223372036854775807 by omega), M.aE.jQ _ (hx.2 _ (List.getElem_mem hk))]
  · simp only [iX]
    rw [if_neg (by rw [aO]; simp)]
structure M.aK.ok (x : M.aK) : Prop where
  Buckets : (x.Buckets.length ≤ maxLen ∧ ∀ y ∈ x.Buckets, M.aE.ok y)
def M.aK.sh : List Shp := [.sl M.aE.sh]
theorem M.aK.cO (d : List D) (h : mD M.aK.sh d) : ∃ x, d = M.aK.en x ∧ M.aK.ok x := by
  simp only [M.aK.sh, mD, Has] at h
  obtain ⟨_, _, rfl, ⟨_, rfl, w1, q1⟩, rfl⟩ := h
  obtain ⟨a1, rfl, e1⟩ := bB M.aE.cO q1
  exact ⟨⟨a1⟩, rfl, ⟨⟨by simpa using w1, e1⟩⟩⟩
def M.aK.sz (x : M.aK) : Nat := (x.Buckets.length + aD M.aE.sz x.Buckets)
theorem M.aK.kT (x : M.aK) (hx : M.aK.ok x) : Sz (sB x) (M.aK.sz x) := by
  intro l a b
  unfold sB M.aK.sz
  exact (Sz.call (M.aB5.kT _ hx.Buckets)) l a b
theorem M.aK.kG (x : M.aK) (hx : M.aK.ok x) (hs : M.aK.sz x ≤ 1048576) : sL x = some x := by
  unfold M.aK.sz at hs
  unfold sL
  rw [M.aB5.kG _ hx.Buckets (by omega), Option.bind_some]
theorem M.aK.jQ (x : M.aK) (hx : M.aK.ok x) : tP x x = some true := by
  simp [tP, M.aB5.jQ _ hx.Buckets]
structure M.aM.ok (x : M.aM) : Prop where
  Path : x.Path.size ≤ maxLen
  Version : inI x.Version
def M.aM.sh : List Shp := [.str, .int .i64]
theorem M.aM.cO (d : List D) (h : mD M.aM.sh d) : ∃ x, d = M.aM.en x ∧ M.aM.ok x := by
  simp only [M.aM.sh, mD, Has] at h
  obtain ⟨_, _, rfl, ⟨a1, rfl, w1⟩, _, _, rfl, ⟨a2, rfl, w2⟩, rfl⟩ := h
  exact ⟨⟨a1, a2⟩, rfl, ⟨w1, wf_i64 w2⟩⟩
def M.aM.sz (x : M.aM) : Nat := x.Path.size
theorem M.aM.kT (x : M.aM) (hx : M.aM.ok x) : Sz (vO x) (M.aM.sz x) := by
  intro l a b
  unfold vO M.aM.sz
  exact (Sz.str hx.Path) l a b
theorem M.aM.kG (x : M.aM) (hx : M.aM.ok x) (hs : M.aM.sz x ≤ 1048576) : uU x = some x := by
  unfold M.aM.sz at hs
  unfold uU
  rfl
theorem M.aM.jQ (x : M.aM) (hx : M.aM.ok x) : uJ x x = some true := by
  simp [uJ]
theorem M.aB3.kT (xs : List M.aM) (hx : (xs.length ≤ maxLen ∧ ∀ y ∈ xs, M.aM.ok y)) : Sz (rO xs) ((xs.length + aD M.aM.sz xs)) := by
  intro l a b
  unfold rO
  exact (Sz.aEH hx.1 (fun x h => M.aM.kT x (hx.2 x h)) (fun _ _ _ => rfl)) l a b
theorem M.aB3.kG (xs : List M.aM) (hx : (xs.length ≤ maxLen ∧ ∀ y ∈ xs, M.aM.ok y)) (hs : (xs.length + aD M.aM.sz xs) ≤ 1048576) : sO xs = some xs := by
  have hm := le_max hx.1
  unfold sO
  rw [zM (by omega) (by omega), Option.bind_some]
  refine zF hx.1 (fun n k r hk hr => ?_) (fun n r => ?_) fuel 0 _ (by unfold fuel; omega) (by omega) (by simp) (by simp)
  · simp only [jF]
    rw [if_pos (bA hk), aN hk, Option.bind_some, M.aM.kG _ (hx.2 _ (List.getElem_mem hk)) (by have := dB (f := M.aM.sz) (List.getElem_mem hk); omega), Option.bind_some, aN (by omega), Option.bind_some, bE (by omega), Int.toNat_natCast]
  · simp only [jF]
    rw [if_neg (by rw [aO]; simp)]
theorem M.aB3.jQ (xs : List M.aM) (hx : (xs.length ≤ maxLen ∧ ∀ y ∈ xs, M.aM.ok y)) : tE xs xs = some true := by
  have hm := le_max hx.1
  unfold tE
  rw [if_neg (by simp)]
  refine zH hx.1 (fun n k hk => ?_) (fun n => ?_) fuel 0 (by unfold fuel; omega) (by omega)
  · simp only [jG]
    rw [if_pos (bA hk), aN hk]
    simp [bE (show k < 9223372036854775807 by omega), M.aM.jQ _ (hx.2 _ (List.getElem_mem hk))]
  · simp only [jG]
    rw [if_neg (by rw [aO]; simp)]
structure M.Instr.ok (x : M.Instr) : Prop where
  Kind : inI x.Kind
  R : inI x.R
  N : inI x.N
  Text : x.Text.size ≤ maxLen
def M.Instr.sh : List Shp := [.int .i64, .int .i64, .int .i64, .str]
theorem M.Instr.cO (d : List D) (h : mD M.Instr.sh d) : ∃ x, d = M.Instr.en x ∧ M.Instr.ok x := by
  simp only [M.Instr.sh, mD, Has] at h
  obtain ⟨_, _, rfl, ⟨a1, rfl, w1⟩, _, _, rfl, ⟨a2, rfl, w2⟩, _, _, rfl, ⟨a3, rfl, w3⟩, _, _, rfl, ⟨a4, rfl, w4⟩, rfl⟩ := h
  exact ⟨⟨a1, a2, a3, a4⟩, rfl, ⟨wf_i64 w1, wf_i64 w2, wf_i64 w3, w4⟩⟩
def M.Instr.sz (x : M.Instr) : Nat := x.Text.size
theorem M.Instr.kT (x : M.Instr) (hx : M.Instr.ok x) : Sz (xO x) (M.Instr.sz x) := by
  intro l a b
  unfold xO M.Instr.sz
  exact (Sz.str hx.Text) l a b
theorem M.Instr.kG (x : M.Instr) (hx : M.Instr.ok x) (hs : M.Instr.sz x ≤ 1048576) : xP x = some x := by
  unfold M.Instr.sz at hs
  unfold xP
  rfl
theorem M.Instr.jQ (x : M.Instr) (hx : M.Instr.ok x) : zA x x = some true := by
  simp [zA]
theorem M.aDo.kT (xs : List M.Instr) (hx : (xs.length ≤ maxLen ∧ ∀ y ∈ xs, M.Instr.ok y)) : Sz (vH xs) ((xs.length + aD M.Instr.sz xs)) := by
  intro l a b
  unfold vH
  exact (Sz.aEH hx.1 (fun x h => M.Instr.kT x (hx.2 x h)) (fun _ _ _ => rfl)) l a b
theorem M.aDo.kG (xs : List M.Instr) (hx : (xs.length ≤ maxLen ∧ ∀ y ∈ xs, M.Instr.ok y)) (hs : (xs.length + aD M.Instr.sz xs) ≤ 1048576) : vN xs = some xs := by
  have hm := le_max hx.1
  unfold vN
  rw [zM (by omega) (by omega), Option.bind_some]
  refine zF hx.1 (fun n k r hk hr => ?_) (fun n r => ?_) fuel 0 _ (by unfold fuel; omega) (by omega) (by simp) (by simp)
  · simp only [jT]
    rw [if_pos (bA hk), aN hk, Option.bind_some, M.Instr.kG _ (hx.2 _ (List.getElem_mem hk)) (by have := dB (f := M.Instr.sz) (List.getElem_mem hk); omega), Option.bind_some, aN (by omega), Option.bind_some, bE (by omega), Int.toNat_natCast]
  · simp only [jT]
    rw [if_neg (by rw [aO]; simp)]
theorem M.aDo.jQ (xs : List M.Instr) (hx : (xs.length ≤ maxLen ∧ ∀ y ∈ xs, M.Instr.ok y)) : vV xs xs = some true := by
  have hm := le_max hx.1
  unfold vV
  rw [if_neg (by simp)]
  refine zH hx.1 (fun n k hk => ?_) (fun n => ?_) fuel 0 (by unfold fuel; omega) (by omega)
  · simp only [jS]
    rw [if_pos (bA hk), aN hk]
    simp [bE (show k < 9223372036854775807 by omega), M.Instr.jQ _ (hx.2 _ (List.getElem_mem hk))]
  · simp only [jS]
    rw [if_neg (by rw [aO]; simp)]
theorem M.aKB.kT (xs : List Int) (hx : okI xs) : Sz (aAl xs) (xs.length) := by
  intro l a b
  unfold aAl
  exact (Sz.str hx.1) l a b
theorem M.aKB.kG (xs : List Int) (hx : okI xs) (hs : xs.length ≤ 1048576) : zU xs = some xs := by
  have hm := le_max hx.1
  unfold zU
  rw [zM (by omega) (by omega), Option.bind_some]
  refine zF hx.1 (fun n k r hk hr => ?_) (fun n r => ?_) fuel 0 _ (by unfold fuel; omega) (by omega) (by simp) (by simp)
  · simp only [mR]
    rw [if_pos (bA hk), aN hk, Option.bind_some, aN (by omega), Option.bind_some, bE (by omega), Int.toNat_natCast]
  · simp only [mR]
    rw [if_neg (by rw [aO]; simp)]
theorem M.aKB.jQ (xs : List Int) (hx : okI xs) : aAU xs xs = some true := by
  have hm := le_max hx.1
  unfold aAU
  rw [if_neg (by simp)]
  refine zH hx.1 (fun n k hk => ?_) (fun n => ?_) fuel 0 (by unfold fuel; omega) (by omega)
  · simp only [mN]
    rw [if_pos (bA hk), aN hk]
    simp [bE (show k < 9223372036854775807 by omega)]
  · simp only [mN]
    rw [if_neg (by rw [aO]; simp)]
structure M.Machine.ok (x : M.Machine) : Prop where
  Script : (x.Script.length ≤ maxLen ∧ ∀ y ∈ x.Script, M.Instr.ok y)
  Pc : inI x.Pc
  Regs : okI x.Regs
  Steps : inI x.Steps
def M.Machine.sh : List Shp := [.sl M.Instr.sh, .int .i64, .sl [.int .i64], .int .i64, .bool, .bool]
theorem M.Machine.cO (d : List D) (h : mD M.Machine.sh d) : ∃ x, d = M.Machine.en x ∧ M.Machine.ok x := by
  simp only [M.Machine.sh, mD, Has] at h
  obtain ⟨_, _, rfl, ⟨_, rfl, w1, q1⟩, _, _, rfl, ⟨a2, rfl, w2⟩, _, _, rfl, ⟨_, rfl, w3, q3⟩, _, _, rfl, ⟨a4, rfl, w4⟩, _, _, rfl, ⟨a5, rfl⟩, _, _, rfl, ⟨a6, rfl⟩, rfl⟩ := h
  obtain ⟨a1, rfl, e1⟩ := bB M.Instr.cO q1
  obtain ⟨a3, rfl, e3⟩ := bB aL6 q3
  exact ⟨⟨a1, a2, a3, a4, a5, a6⟩, rfl, ⟨⟨by simpa using w1, e1⟩, wf_i64 w2, ⟨by simpa using w3, e3⟩, wf_i64 w4⟩⟩
def M.Machine.sz (x : M.Machine) : Nat := (x.Script.length + aD M.Instr.sz x.Script) + (x.Regs.length)
theorem M.Machine.kT (x : M.Machine) (hx : M.Machine.ok x) : Sz (tD x) (M.Machine.sz x) := by
  intro l a b
  unfold tD M.Machine.sz
  exact (Sz.qY (M.aDo.kT _ hx.Script) (Sz.call (M.aKB.kT _ hx.Regs))) l a b
theorem M.Machine.kG (x : M.Machine) (hx : M.Machine.ok x) (hs : M.Machine.sz x ≤ 1048576) : sY x = some x := by
  unfold M.Machine.sz at hs
  unfold sY
  rw [M.aDo.kG _ hx.Script (by omega), Option.bind_some, M.aKB.kG _ hx.Regs (by omega), Option.bind_some]
theorem M.Machine.jQ (x : M.Machine) (hx : M.Machine.ok x) : rT x x = some true := by
  simp [rT, M.aDo.jQ _ hx.Script, M.aKB.jQ _ hx.Regs]
structure M.bF.ok (x : M.bF) : Prop where
  Id : inI x.Id
  Site : x.Site.size ≤ maxLen
  Top : x.Top.size ≤ maxLen
  Version : inI x.Version
  aM : (x.aM.length ≤ maxLen ∧ ∀ y ∈ x.aM, M.aM.ok y)
  Machine : M.Machine.ok x.Machine
def M.bF.sh : List Shp := [.int .i64, .str, .str, .int .i64, .sl M.aM.sh, .sl M.Instr.sh, .int .i64, .sl [.int .i64], .int .i64, .bool, .bool]
theorem M.bF.cO (d : List D) (h : mD M.bF.sh d) : ∃ x, d = M.bF.en x ∧ M.bF.ok x := by
  simp only [M.bF.sh, mD, Has] at h
  obtain ⟨_, _, rfl, ⟨a1, rfl, w1⟩, _, _, rfl, ⟨a2, rfl, w2⟩, _, _, rfl, ⟨a3, rfl, w3⟩, _, _, rfl, ⟨a4, rfl, w4⟩, _, _, rfl, ⟨_, rfl, w5, q5⟩, _, _, rfl, ⟨_, rfl, w6, q6⟩, _, _, rfl, ⟨a7, rfl, w7⟩, _, _, rfl, ⟨_, rfl, w8, q8⟩, _, _, rfl, ⟨a9, rfl, w9⟩, _, _, rfl, ⟨a10, rfl⟩, _, _, rfl, ⟨a11, rfl⟩, rfl⟩ := h
  obtain ⟨a5, rfl, e5⟩ := bB M.aM.cO q5
  obtain ⟨a6, rfl, e6⟩ := bB M.Instr.cO q6
  obtain ⟨a8, rfl, e8⟩ := bB aL6 q8
  exact ⟨⟨a1, a2, a3, a4, a5, ⟨a6, a7, a8, a9, a10, a11⟩⟩, rfl, ⟨wf_i64 w1, w2, w3, wf_i64 w4, ⟨by simpa using w5, e5⟩, ⟨⟨by simpa using w6, e6⟩, wf_i64 w7, ⟨by simpa using w8, e8⟩, wf_i64 w9⟩⟩⟩
def M.bF.sz (x : M.bF) : Nat := x.Site.size + (x.Top.size + ((x.aM.length + aD M.aM.sz x.aM) + (M.Machine.sz x.Machine)))
theorem M.bF.kT (x : M.bF) (hx : M.bF.ok x) : Sz (aAG x) (M.bF.sz x) := by
  intro l a b
  unfold aAG M.bF.sz
  exact (Sz.aBe hx.Site (Sz.aBe hx.Top (Sz.qY (M.aB3.kT _ hx.aM) (Sz.call (M.Machine.kT _ hx.Machine))))) l a b
theorem M.bF.kG (x : M.bF) (hx : M.bF.ok x) (hs : M.bF.sz x ≤ 1048576) : aAC x = some x := by
  unfold M.bF.sz at hs
  unfold aAC
  rw [M.aB3.kG _ hx.aM (by omega), Option.bind_some, M.Machine.kG _ hx.Machine (by omega), Option.bind_some]
theorem M.bF.jQ (x : M.bF) (hx : M.bF.ok x) : aAe x x = some true := by
  simp [aAe, M.aB3.jQ _ hx.aM, M.Machine.jQ _ hx.Machine]
theorem M.aHr.kT (xs : List M.bF) (hx : (xs.length ≤ maxLen ∧ ∀ y ∈ xs, M.bF.ok y)) : Sz (xF xs) ((xs.length + aD M.bF.sz xs)) := by
  intro l a b
  unfold xF
  exact (Sz.aEH hx.1 (fun x h => M.bF.kT x (hx.2 x h)) (fun _ _ _ => rfl)) l a b
theorem M.aHr.kG (xs : List M.bF) (hx : (xs.length ≤ maxLen ∧ ∀ y ∈ xs, M.bF.ok y)) (hs : (xs.length + aD M.bF.sz xs) ≤ 1048576) : yE xs = some xs := by
  have hm := le_max hx.1
  unfold yE
  rw [zM (by omega) (by omega), Option.bind_some]
  refine zF hx.1 (fun n k r hk hr => ?_) (fun n r => ?_) fuel 0 _ (by unfold fuel; omega) (by omega) (by simp) (by simp)
  · simp only [lN]
    rw [if_pos (bA hk), aN hk, Option.bind_some, M.bF.kG _ (hx.2 _ (List.getElem_mem hk)) (by have := dB (f := M.bF.sz) (List.getElem_mem hk); omega), Option.bind_some, aN (by omega), Option.bind_some, bE (by omega), Int.toNat_natCast]
  · simp only [lN]
    rw [if_neg (by rw [aO]; simp)]
theorem M.aHr.jQ (xs : List M.bF) (hx : (xs.length ≤ maxLen ∧ ∀ y ∈ xs, M.bF.ok y)) : xS xs xs = some true := by
  have hm := le_max hx.1
  unfold xS
  rw [if_neg (by simp)]
  refine zH hx.1 (fun n k hk => ?_) (fun n => ?_) fuel 0 (by unfold fuel; omega) (by omega)
  · simp only [lK]
    rw [if_pos (bA hk), aN hk]
    simp [bE (show k < 9223372036854775807 by omega), M.bF.jQ _ (hx.2 _ (List.getElem_mem hk))]
  · simp only [lK]
    rw [if_neg (by rw [aO]; simp)]
structure M.bZ.ok (x : M.bZ) : Prop where
  Name : x.Name.size ≤ maxLen
  bF : inI x.bF
def M.bZ.sh : List Shp := [.str, .int .i64, .bool, .bool]
theorem M.bZ.cO (d : List D) (h : mD M.bZ.sh d) : ∃ x, d = M.bZ.en x ∧ M.bZ.ok x := by
  simp only [M.bZ.sh, mD, Has] at h
  obtain ⟨_, _, rfl, ⟨a1, rfl, w1⟩, _, _, rfl, ⟨a2, rfl, w2⟩, _, _, rfl, ⟨a3, rfl⟩, _, _, rfl, ⟨a4, rfl⟩, rfl⟩ := h
  exact ⟨⟨a1, a2, a3, a4⟩, rfl, ⟨w1, wf_i64 w2⟩⟩
def M.bZ.sz (x : M.bZ) : Nat := x.Name.size
theorem M.bZ.kT (x : M.bZ) (hx : M.bZ.ok x) : Sz (aAX x) (M.bZ.sz x) := by
  intro l a b
  unfold aAX M.bZ.sz
  exact (Sz.str hx.Name) l a b
theorem M.bZ.kG (x : M.bZ) (hx : M.bZ.ok x) (hs : M.bZ.sz x ≤ 1048576) : zV x = some x := by
  unfold M.bZ.sz at hs
  unfold zV
  rfl
theorem M.bZ.jQ (x : M.bZ) (hx : M.bZ.ok x) : aAa x x = some true := by
  simp [aAa]
theorem M.aH3.kT (xs : List M.bZ) (hx : (xs.length ≤ maxLen ∧ ∀ y ∈ xs, M.bZ.ok y)) : Sz (yV xs) ((xs.length + aD M.bZ.sz xs)) := by
  intro l a b
  unfold yV
  exact (Sz.aEH hx.1 (fun x h => M.bZ.kT x (hx.2 x h)) (fun _ _ _ => rfl)) l a b
theorem M.aH3.kG (xs : List M.bZ) (hx : (xs.length ≤ maxLen ∧ ∀ y ∈ xs, M.bZ.ok y)) (hs : (xs.length + aD M.bZ.sz xs) ≤ 1048576) : yZ xs = some xs := by
  have hm := le_max hx.1
  unfold yZ
  rw [zM (by omega) (by omega), Option.bind_some]
  refine zF hx.1 (fun n k r hk hr => ?_) (fun n r => ?_) fuel 0 _ (by unfold fuel; omega) (by omega) (by simp) (by simp)
  · simp only [lD]
    rw [if_pos (bA hk), aN hk, Option.bind_some, M.bZ.kG _ (hx.2 _ (List.getElem_mem hk)) (by have := dB (f := M.bZ.sz) (List.getElem_mem hk); omega), Option.bind_some, aN (by omega), Option.bind_some, bE (by omega), Int.toNat_natCast]
  · simp only [lD]
    rw [if_neg (by rw [aO]; simp)]
theorem M.aH3.jQ (xs : List M.bZ) (hx : (xs.length ≤ maxLen ∧ ∀ y ∈ xs, M.bZ.ok y)) : yL xs xs = some true := by
  have hm := le_max hx.1
  unfold yL
  rw [if_neg (by simp)]
  refine zH hx.1 (fun n k hk => ?_) (fun n => ?_) fuel 0 (by unfold fuel; omega) (by omega)
  · simp only [lF]
    rw [if_pos (bA hk), aN hk]
    simp [bE (show k < 9223372036854775807 by omega), M.bZ.jQ _ (hx.2 _ (List.getElem_mem hk))]
  · simp only [lF]
    rw [if_neg (by rw [aO]; simp)]
structure M.aQ.ok (x : M.aQ) : Prop where
  Locks : (x.Locks.length ≤ maxLen ∧ ∀ y ∈ x.Locks, M.bZ.ok y)
def M.aQ.sh : List Shp := [.sl M.bZ.sh]
theorem M.aQ.cO (d : List D) (h : mD M.aQ.sh d) : ∃ x, d = M.aQ.en x ∧ M.aQ.ok x := by
  simp only [M.aQ.sh, mD, Has] at h
  obtain ⟨_, _, rfl, ⟨_, rfl, w1, q1⟩, rfl⟩ := h
  obtain ⟨a1, rfl, e1⟩ := bB M.bZ.cO q1
  exact ⟨⟨a1⟩, rfl, ⟨⟨by simpa using w1, e1⟩⟩⟩
def M.aQ.sz (x : M.aQ) : Nat := (x.Locks.length + aD M.bZ.sz x.Locks)
theorem M.aQ.kT (x : M.aQ) (hx : M.aQ.ok x) : Sz (nI x) (M.aQ.sz x) := by
  intro l a b
  unfold nI M.aQ.sz
  exact (Sz.call (M.aH3.kT _ hx.Locks)) l a b
theorem M.aQ.kG (x : M.aQ) (hx : M.aQ.ok x) (hs : M.aQ.sz x ≤ 1048576) : nR x = some x := by
  unfold M.aQ.sz at hs
  unfold nR
  rw [M.aH3.kG _ hx.Locks (by omega), Option.bind_some]
theorem M.aQ.jQ (x : M.aQ) (hx : M.aQ.ok x) : nA x x = some true := by
  simp [nA, M.aH3.jQ _ hx.Locks]
structure M.cN.ok (x : M.cN) : Prop where
  To : inI x.To
  From : inI x.From
  N : inI x.N
def M.cN.sh : List Shp := [.int .i64, .int .i64, .int .i64]
theorem M.cN.cO (d : List D) (h : mD M.cN.sh d) : ∃ x, d = M.cN.en x ∧ M.cN.ok x := by
  simp only [M.cN.sh, mD, Has] at h
  obtain ⟨_, _, rfl, ⟨a1, rfl, w1⟩, _, _, rfl, ⟨a2, rfl, w2⟩, _, _, rfl, ⟨a3, rfl, w3⟩, rfl⟩ := h
  exact ⟨⟨a1, a2, a3⟩, rfl, ⟨wf_i64 w1, wf_i64 w2, wf_i64 w3⟩⟩
theorem M.cN.kG (x : M.cN) (hx : M.cN.ok x) : aAk x = some x := by
  unfold aAk
  rfl
theorem M.cN.jQ (x : M.cN) (hx : M.cN.ok x) : aAi x x = some true := by
  simp [aAi]
theorem M.aH4.kT (xs : List M.cN) (hx : (xs.length ≤ maxLen ∧ ∀ y ∈ xs, M.cN.ok y)) : Sz (yR xs) (xs.length) := by
  intro l a b
  unfold yR
  exact (Sz.str hx.1) l a b
theorem M.aH4.kG (xs : List M.cN) (hx : (xs.length ≤ maxLen ∧ ∀ y ∈ xs, M.cN.ok y)) (hs : xs.length ≤ 1048576) : yA xs = some xs := by
  have hm := le_max hx.1
  unfold yA
  rw [zM (by omega) (by omega), Option.bind_some]
  refine zF hx.1 (fun n k r hk hr => ?_) (fun n r => ?_) fuel 0 _ (by unfold fuel; omega) (by omega) (by simp) (by simp)
  · simp only [lL]
    rw [if_pos (bA hk), aN hk, Option.bind_some, M.cN.kG _ (hx.2 _ (List.getElem_mem hk)), Option.bind_some, aN (by omega), Option.bind_some, bE (by omega), Int.toNat_natCast]
  · simp only [lL]
    rw [if_neg (by rw [aO]; simp)]
theorem M.aH4.jQ (xs : List M.cN) (hx : (xs.length ≤ maxLen ∧ ∀ y ∈ xs, M.cN.ok y)) : xQ xs xs = some true := by
  have hm := le_max hx.1
  unfold xQ
  rw [if_neg (by simp)]
  refine zH hx.1 (fun n k hk => ?_) (fun n => ?_) fuel 0 (by unfold fuel; omega) (by omega)
  · simp only [lC]
    rw [if_pos (bA hk), aN hk]
    simp [bE (show k < 9223372036854775807 by omega), M.cN.jQ _ (hx.2 _ (List.getElem_mem hk))]
  · simp only [lC]
    rw [if_neg (by rw [aO]; simp)]
structure M.Channel.ok (x : M.Channel) : Prop where
  Mails : (x.Mails.length ≤ maxLen ∧ ∀ y ∈ x.Mails, M.cN.ok y)
def M.Channel.sh : List Shp := [.sl M.cN.sh]
theorem M.Channel.cO (d : List D) (h : mD M.Channel.sh d) : ∃ x, d = M.Channel.en x ∧ M.Channel.ok x := by
  simp only [M.Channel.sh, mD, Has] at h
  obtain ⟨_, _, rfl, ⟨_, rfl, w1, q1⟩, rfl⟩ := h
  obtain ⟨a1, rfl, e1⟩ := bB M.cN.cO q1
  exact ⟨⟨a1⟩, rfl, ⟨⟨by simpa using w1, e1⟩⟩⟩
def M.Channel.sz (x : M.Channel) : Nat := x.Mails.length
theorem M.Channel.kT (x : M.Channel) (hx : M.Channel.ok x) : Sz (tL x) (M.Channel.sz x) := by
  intro l a b
  unfold tL M.Channel.sz
  exact (Sz.call (M.aH4.kT _ hx.Mails)) l a b
theorem M.Channel.kG (x : M.Channel) (hx : M.Channel.ok x) (hs : M.Channel.sz x ≤ 1048576) : sG x = some x := by
  unfold M.Channel.sz at hs
  unfold sG
  rw [M.aH4.kG _ hx.Mails (by omega), Option.bind_some]
theorem M.Channel.jQ (x : M.Channel) (hx : M.Channel.ok x) : sZ x x = some true := by
  simp [sZ, M.aH4.jQ _ hx.Mails]
theorem M.aAE.kT (xs : List ByteArray) (hx : okS xs) : Sz (sK xs) ((xs.length + aD ByteArray.size xs)) := by
  intro l a b
  unfold sK
  exact (Sz.strs hx (fun _ _ _ => rfl)) l a b
theorem M.aAE.kG (xs : List ByteArray) (hx : okS xs) (hs : (xs.length + aD ByteArray.size xs) ≤ 1048576) : rY xs = some xs := by
  have hm := le_max hx.1
  unfold rY
  rw [zM (by omega) (by omega), Option.bind_some]
  refine zF hx.1 (fun n k r hk hr => ?_) (fun n r => ?_) fuel 0 _ (by unfold fuel; omega) (by omega) (by simp) (by simp)
  · simp only [jB]
    rw [if_pos (bA hk), aN hk, Option.bind_some, aN (by omega), Option.bind_some, bE (by omega), Int.toNat_natCast]
  · simp only [jB]
    rw [if_neg (by rw [aO]; simp)]
theorem M.aAE.jQ (xs : List ByteArray) (hx : okS xs) : sC xs xs = some true := by
  have hm := le_max hx.1
  unfold sC
  rw [if_neg (by simp)]
  refine zH hx.1 (fun n k hk => ?_) (fun n => ?_) fuel 0 (by unfold fuel; omega) (by omega)
  · simp only [iZ]
    rw [if_pos (bA hk), aN hk]
    simp [bE (show k < 9223372036854775807 by omega)]
  · simp only [iZ]
    rw [if_neg (by rw [aO]; simp)]
structure M.Site.ok (x : M.Site) : Prop where
  Name : x.Name.size ≤ maxLen
  Version : inI x.Version
  Files : okS x.Files
def M.Site.sh : List Shp := [.str, .int .i64, .sl [.str], .bool]
theorem M.Site.cO (d : List D) (h : mD M.Site.sh d) : ∃ x, d = M.Site.en x ∧ M.Site.ok x := by
  simp only [M.Site.sh, mD, Has] at h
  obtain ⟨_, _, rfl, ⟨a1, rfl, w1⟩, _, _, rfl, ⟨a2, rfl, w2⟩, _, _, rfl, ⟨_, rfl, w3, q3⟩, _, _, rfl, ⟨a4, rfl⟩, rfl⟩ := h
  obtain ⟨a3, rfl, e3⟩ := bB aO9 q3
  exact ⟨⟨a1, a2, a3, a4⟩, rfl, ⟨w1, wf_i64 w2, ⟨by simpa using w3, e3⟩⟩⟩
def M.Site.sz (x : M.Site) : Nat := x.Name.size + ((x.Files.length + aD ByteArray.size x.Files))
theorem M.Site.kT (x : M.Site) (hx : M.Site.ok x) : Sz (aAK x) (M.Site.sz x) := by
  intro l a b
  unfold aAK M.Site.sz
  exact (Sz.aBe hx.Name (Sz.call (M.aAE.kT _ hx.Files))) l a b
theorem M.Site.kG (x : M.Site) (hx : M.Site.ok x) (hs : M.Site.sz x ≤ 1048576) : zP x = some x := by
  unfold M.Site.sz at hs
  unfold zP
  rw [M.aAE.kG _ hx.Files (by omega), Option.bind_some]
theorem M.Site.jQ (x : M.Site) (hx : M.Site.ok x) : aAf x x = some true := by
  simp [aAf, M.aAE.jQ _ hx.Files]
theorem M.aHb.kT (xs : List M.Site) (hx : (xs.length ≤ maxLen ∧ ∀ y ∈ xs, M.Site.ok y)) : Sz (xT xs) ((xs.length + aD M.Site.sz xs)) := by
  intro l a b
  unfold xT
  exact (Sz.aEH hx.1 (fun x h => M.Site.kT x (hx.2 x h)) (fun _ _ _ => rfl)) l a b
theorem M.aHb.kG (xs : List M.Site) (hx : (xs.length ≤ maxLen ∧ ∀ y ∈ xs, M.Site.ok y)) (hs : (xs.length + aD M.Site.sz xs) ≤ 1048576) : yS xs = some xs := by
  have hm := le_max hx.1
  unfold yS
  rw [zM (by omega) (by omega), Option.bind_some]
  refine zF hx.1 (fun n k r hk hr => ?_) (fun n r => ?_) fuel 0 _ (by unfold fuel; omega) (by omega) (by simp) (by simp)
  · simp only [lP]
    rw [if_pos (bA hk), aN hk, Option.bind_some, M.Site.kG _ (hx.2 _ (List.getElem_mem hk)) (by have := dB (f := M.Site.sz) (List.getElem_mem hk); omega), Option.bind_some, aN (by omega), Option.bind_some, bE (by omega), Int.toNat_natCast]
  · simp only [lP]
    rw [if_neg (by rw [aO]; simp)]
theorem M.aHb.jQ (xs : List M.Site) (hx : (xs.length ≤ maxLen ∧ ∀ y ∈ xs, M.Site.ok y)) : xC xs xs = some true := by
  have hm := le_max hx.1
  unfold xC
  rw [if_neg (by simp)]
  refine zH hx.1 (fun n k hk => ?_) (fun n => ?_) fuel 0 (by unfold fuel; omega) (by omega)
  · simp only [lO]
    rw [if_pos (bA hk), aN hk]
    simp [bE (show k < 9223372036854775807 by omega), M.Site.jQ _ (hx.2 _ (List.getElem_mem hk))]
  · simp only [lO]
    rw [if_neg (by rw [aO]; simp)]
structure M.aH.ok (x : M.aH) : Prop where
  Device : inI x.Device
  Seq : inI x.Seq
def M.aH.sh : List Shp := [.int .i64, .int .i64]
theorem M.aH.cO (d : List D) (h : mD M.aH.sh d) : ∃ x, d = M.aH.en x ∧ M.aH.ok x := by
  simp only [M.aH.sh, mD, Has] at h
  obtain ⟨_, _, rfl, ⟨a1, rfl, w1⟩, _, _, rfl, ⟨a2, rfl, w2⟩, rfl⟩ := h
  exact ⟨⟨a1, a2⟩, rfl, ⟨wf_i64 w1, wf_i64 w2⟩⟩
theorem M.aH.kG (x : M.aH) (hx : M.aH.ok x) : rQ x = some x := by
  unfold rQ
  rfl
theorem M.aH.jQ (x : M.aH) (hx : M.aH.ok x) : rU x x = some true := by
  simp [rU]
theorem M.aBG.kT (xs : List M.aH) (hx : (xs.length ≤ maxLen ∧ ∀ y ∈ xs, M.aH.ok y)) : Sz (pQ xs) (xs.length) := by
  intro l a b
  unfold pQ
  exact (Sz.str hx.1) l a b
theorem M.aBG.kG (xs : List M.aH) (hx : (xs.length ≤ maxLen ∧ ∀ y ∈ xs, M.aH.ok y)) (hs : xs.length ≤ 1048576) : qK xs = some xs := by
  have hm := le_max hx.1
  unfold qK
  rw [zM (by omega) (by omega), Option.bind_some]
  refine zF hx.1 (fun n k r hk hr => ?_) (fun n r => ?_) fuel 0 _ (by unfold fuel; omega) (by omega) (by simp) (by simp)
  · simp only [iO]
    rw [if_pos (bA hk), aN hk, Option.bind_some, M.aH.kG _ (hx.2 _ (List.getElem_mem hk)), Option.bind_some, aN (by omega), Option.bind_some, bE (by omega), Int.toNat_natCast]
  · simp only [iO]
    rw [if_neg (by rw [aO]; simp)]
theorem M.aBG.jQ (xs : List M.aH) (hx : (xs.length ≤ maxLen ∧ ∀ y ∈ xs, M.aH.ok y)) : pN xs xs = some true := by
  have hm := le_max hx.1
  unfold pN
  rw [if_neg (by simp)]
  refine zH hx.1 (fun n k hk => ?_) (fun n => ?_) fuel 0 (by unfold fuel; omega) (by omega)
  · simp only [iN]
    rw [if_pos (bA hk), aN hk]
    simp [bE (show k < 9223372036854775807 by omega), M.aH.jQ _ (hx.2 _ (List.getElem_mem hk))]
  · simp only [iN]
    rw [if_neg (by rw [aO]; simp)]
structure M.Server.ok (x : M.Server) : Prop where
  aG : M.aG.ok x.aG
  aH : (x.aH.length ≤ maxLen ∧ ∀ y ∈ x.aH, M.aH.ok y)
  Changes : (x.Changes.length ≤ maxLen ∧ ∀ y ∈ x.Changes, M.aW.ok y)
def M.Server.sh : List Shp := [.str, .sl M.Item.sh, .int .i64, .sl M.aH.sh, .sl M.aW.sh]
theorem M.Server.cO (d : List D) (h : mD M.Server.sh d) : ∃ x, d = M.Server.en x ∧ M.Server.ok x := by
  simp only [M.Server.sh, mD, Has] at h
  obtain ⟨_, _, rfl, ⟨a1, rfl, w1⟩, _, _, rfl, ⟨_, rfl, w2, q2⟩, _, _, rfl, ⟨a3, rfl, w3⟩, _, _, rfl, ⟨_, rfl, w4, q4⟩, _, _, rfl, ⟨_, rfl, w5, q5⟩, rfl⟩ := h
  obtain ⟨a2, rfl, e2⟩ := bB M.Item.cO q2
  obtain ⟨a4, rfl, e4⟩ := bB M.aH.cO q4
  obtain ⟨a5, rfl, e5⟩ := bB M.aW.cO q5
  exact ⟨⟨⟨a1, a2, a3⟩, a4, a5⟩, rfl, ⟨⟨w1, ⟨by simpa using w2, e2⟩, wf_i64 w3⟩, ⟨by simpa using w4, e4⟩, ⟨by simpa using w5, e5⟩⟩⟩
def M.Server.sz (x : M.Server) : Nat := M.aG.sz x.aG + (x.aH.length + ((x.Changes.length + aD M.aW.sz x.Changes)))
theorem M.Server.kT (x : M.Server) (hx : M.Server.ok x) : Sz (uI x) (M.Server.sz x) := by
  intro l a b
  unfold uI M.Server.sz
  exact (Sz.qY (M.aG.kT _ hx.aG) (Sz.qY (M.aBG.kT _ hx.aH) (Sz.call (M.aBX.kT _ hx.Changes)))) l a b
theorem M.Server.kG (x : M.Server) (hx : M.Server.ok x) (hs : M.Server.sz x ≤ 1048576) : uT x = some x := by
  unfold M.Server.sz at hs
  unfold uT
  rw [M.aG.kG _ hx.aG (by omega), Option.bind_some, M.aBG.kG _ hx.aH (by omega), Option.bind_some, M.aBX.kG _ hx.Changes (by omega), Option.bind_some]
theorem M.Server.jQ (x : M.Server) (hx : M.Server.ok x) : uM x x = some true := by
  simp [uM, M.aG.jQ _ hx.aG, M.aBG.jQ _ hx.aH, M.aBX.jQ _ hx.Changes]
theorem M.aBz.kT (xs : List M.Server) (hx : (xs.length ≤ maxLen ∧ ∀ y ∈ xs, M.Server.ok y)) : Sz (tC xs) ((xs.length + aD M.Server.sz xs)) := by
  intro l a b
  unfold tC
  exact (Sz.aEH hx.1 (fun x h => M.Server.kT x (hx.2 x h)) (fun _ _ _ => rfl)) l a b
theorem M.aBz.kG (xs : List M.Server) (hx : (xs.length ≤ maxLen ∧ ∀ y ∈ xs, M.Server.ok y)) (hs : (xs.length + aD M.Server.sz xs) ≤ 1048576) : sW xs = some xs := by
  have hm := le_max hx.1
  unfold sW
  rw [zM (by omega) (by omega), Option.bind_some]
  refine zF hx.1 (fun n k r hk hr => ?_) (fun n r => ?_) fuel 0 _ (by unfold fuel; omega) (by omega) (by simp) (by simp)
  · simp only [iW]
    rw [if_pos (bA hk), aN hk, Option.bind_some, M.Server.kG _ (hx.2 _ (List.getElem_mem hk)) (by have := dB (f := M.Server.sz) (List.getElem_mem hk); omega), Option.bind_some, aN (by omega), Option.bind_some, bE (by omega), Int.toNat_natCast]
  · simp only [iW]
    rw [if_neg (by rw [aO]; simp)]
theorem M.aBz.jQ (xs : List M.Server) (hx : (xs.length ≤ maxLen ∧ ∀ y ∈ xs, M.Server.ok y)) : rJ xs xs = some true := by
  have hm := le_max hx.1
  unfold rJ
  rw [if_neg (by simp)]
  refine zH hx.1 (fun n k hk => ?_) (fun n => ?_) fuel 0 (by unfold fuel; omega) (by omega)
  · simp only [jE]
    rw [if_pos (bA hk), aN hk]
    simp [bE (show k < 9223372036854775807 by omega), M.Server.jQ _ (hx.2 _ (List.getElem_mem hk))]
  · simp only [jE]
    rw [if_neg (by rw [aO]; simp)]
structure M.World.ok (x : M.World) : Prop where
  Now : inI x.Now
  Device : inI x.Device
  aK : M.aK.ok x.aK
  Pages : (x.Pages.length ≤ maxLen ∧ ∀ y ∈ x.Pages, M.bF.ok y)
  NextPage : inI x.NextPage
  Locks : M.aQ.ok x.Locks
  Channel : M.Channel.ok x.Channel
  Sites : (x.Sites.length ≤ maxLen ∧ ∀ y ∈ x.Sites, M.Site.ok y)
  Servers : (x.Servers.length ≤ maxLen ∧ ∀ y ∈ x.Servers, M.Server.ok y)
def M.World.sh : List Shp := [.int .i64, .bool, .int .i64, .sl M.aE.sh, .sl M.bF.sh, .int .i64, .sl M.bZ.sh, .sl M.cN.sh, .sl M.Site.sh, .sl M.Server.sh]
theorem M.World.cO (d : List D) (h : mD M.World.sh d) : ∃ x, d = M.World.en x ∧ M.World.ok x := by
  simp only [M.World.sh, mD, Has] at h
  obtain ⟨_, _, rfl, ⟨a1, rfl, w1⟩, _, _, rfl, ⟨a2, rfl⟩, _, _, rfl, ⟨a3, rfl, w3⟩, _, _, rfl, ⟨_, rfl, w4, q4⟩, _, _, rfl, ⟨_, rfl, w5, q5⟩, _, _, rfl, ⟨a6, rfl, w6⟩, _, _, rfl, ⟨_, rfl, w7, q7⟩, _, _, rfl, ⟨_, rfl, w8, q8⟩, _, _, rfl, ⟨_, rfl, w9, q9⟩, _, _, rfl, ⟨_, rfl, w10, q10⟩, rfl⟩ := h
  obtain ⟨a4, rfl, e4⟩ := bB M.aE.cO q4
  obtain ⟨a5, rfl, e5⟩ := bB M.bF.cO q5
  obtain ⟨a7, rfl, e7⟩ := bB M.bZ.cO q7
  obtain ⟨a8, rfl, e8⟩ := bB M.cN.cO q8
  obtain ⟨a9, rfl, e9⟩ := bB M.Site.cO q9
  obtain ⟨a10, rfl, e10⟩ := bB M.Server.cO q10
  exact ⟨⟨a1, a2, a3, ⟨a4⟩, a5, a6, ⟨a7⟩, ⟨a8⟩, a9, a10⟩, rfl, ⟨wf_i64 w1, wf_i64 w3, ⟨⟨by simpa using w4, e4⟩⟩, ⟨by simpa using w5, e5⟩, wf_i64 w6, ⟨⟨by simpa using w7, e7⟩⟩, ⟨⟨by simpa using w8, e8⟩⟩, ⟨by simpa using w9, e9⟩, ⟨by simpa using w10, e10⟩⟩⟩
def M.World.sz (x : M.World) : Nat := M.aK.sz x.aK + ((x.Pages.length + aD M.bF.sz x.Pages) + (M.aQ.sz x.Locks + (M.Channel.sz x.Channel + ((x.Sites.length + aD M.Site.sz x.Sites) + ((x.Servers.length + aD M.Server.sz x.Servers))))))
theorem M.World.kT (x : M.World) (hx : M.World.ok x) : Sz (xU x) (M.World.sz x) := by
  intro l a b
  unfold xU M.World.sz
  exact (Sz.qY (M.aK.kT _ hx.aK) (Sz.qY (M.aHr.kT _ hx.Pages) (Sz.qY (M.aQ.kT _ hx.Locks) (Sz.qY (M.Channel.kT _ hx.Channel) (Sz.qY (M.aHb.kT _ hx.Sites) (Sz.call (M.aBz.kT _ hx.Servers))))))) l a b
theorem M.World.kG (x : M.World) (hx : M.World.ok x) (hs : M.World.sz x ≤ 1048576) : kW x = some x := by
  unfold M.World.sz at hs
  unfold kW
  rw [M.aK.kG _ hx.aK (by omega), Option.bind_some, M.aHr.kG _ hx.Pages (by omega), Option.bind_some, M.aQ.kG _ hx.Locks (by omega), Option.bind_some, M.Channel.kG _ hx.Channel (by omega), Option.bind_some, M.aHb.kG _ hx.Sites (by omega), Option.bind_some, M.aBz.kG _ hx.Servers (by omega), Option.bind_some]
theorem M.World.jQ (x : M.World) (hx : M.World.ok x) : kX x x = some true := by
  simp [kX, M.aK.jQ _ hx.aK, M.aHr.jQ _ hx.Pages, M.aQ.jQ _ hx.Locks, M.Channel.jQ _ hx.Channel, M.aHb.jQ _ hx.Sites, M.aBz.jQ _ hx.Servers]
end Go.Proofs.YtecmnmaaopkdfaaGreat.gen
