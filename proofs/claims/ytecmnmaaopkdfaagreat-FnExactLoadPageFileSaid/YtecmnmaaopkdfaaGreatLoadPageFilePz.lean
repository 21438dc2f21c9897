/-
  Helper text. No conditions.
-/
import Derived.Test.YtecmnmaaopkdfaaGreatLoadPageFileMod
namespace Go.Proofs.YtecmnmaaopkdfaaGreat.gen
open Go Go.Sh
set_option linter.unusedVariables false
set_option linter.unusedSimpArgs false
structure M.Registration.ok (x : M.Registration) : Prop where
  Site : x.Site.size ≤ maxLen
  Installing : inI x.Installing
  Waiting : inI x.Waiting
  Active : inI x.Active
def M.Registration.sh : List Shp := [.str, .int .i64, .int .i64, .int .i64]
theorem M.Registration.cT (d : List D) (h : mW M.Registration.sh d) : ∃ x, d = M.Registration.en x ∧ M.Registration.ok x := by
  simp only [M.Registration.sh, mW, Has] at h
  obtain ⟨_, _, rfl, ⟨a1, rfl, w1⟩, _, _, rfl, ⟨a2, rfl, w2⟩, _, _, rfl, ⟨a3, rfl, w3⟩, _, _, rfl, ⟨a4, rfl, w4⟩, rfl⟩ := h
  exact ⟨⟨a1, a2, a3, a4⟩, rfl, ⟨w1, wf_i64 w2, wf_i64 w3, wf_i64 w4⟩⟩
def M.Registration.sz (x : M.Registration) : Nat := x.Site.size
theorem M.Registration.lQ (x : M.Registration) (hx : M.Registration.ok x) : Sz (kH x) (M.Registration.sz x) := by
  intro l a b
  unfold kH M.Registration.sz
  exact (Sz.str hx.Site) l a b
theorem M.Registration.kY (x : M.Registration) (hx : M.Registration.ok x) (hs : M.Registration.sz x ≤ 1048576) : kF x = some x := by
  unfold M.Registration.sz at hs
  unfold kF
  rfl
theorem M.Registration.kJ (x : M.Registration) (hx : M.Registration.ok x) : kG x x = some true := by
  simp [kG]
theorem M.aCh.lQ (xs : List Int) (hx : okB xs) : Sz (vH xs) (xs.length) := by
  intro l a b
  unfold vH
  exact (Sz.str hx.1) l a b
theorem M.aCh.kY (xs : List Int) (hx : okB xs) (hs : xs.length ≤ 1048576) : vE xs = some xs := by
  have hm := le_max hx.1
  unfold vE
  rw [aAt (by omega) (by omega), Option.bind_some]
  refine aAO hx.1 (fun n k r hk hr => ?_) (fun n r => ?_) fuel 0 _ (by unfold fuel; omega) (by omega) (by simp) (by simp)
  · simp only [mA]
    rw [if_pos (bA hk), aN hk, Option.bind_some, aN (by omega), Option.bind_some, bD (by omega), Int.toNat_natCast]
  · simp only [mA]
    rw [if_neg (by rw [aO]; simp)]
theorem M.aCh.kJ (xs : List Int) (hx : okB xs) : vF xs xs = some true := by
  have hm := le_max hx.1
  unfold vF
  rw [if_neg (by simp)]
  refine aAR hx.1 (fun n k hk => ?_) (fun n => ?_) fuel 0 (by unfold fuel; omega) (by omega)
  · simp only [mF]
    rw [if_pos (bA hk), aN hk]
    simp [bD (show k < 9223372036854775807 by omega)]
  · simp only [mF]
    rw [if_neg (by rw [aO]; simp)]
structure M.Response.ok (x : M.Response) : Prop where
  Type_ : inI x.Type_
  Status : inI x.Status
  Version : inI x.Version
  Body : okB x.Body
def M.Response.sh : List Shp := [.int .i64, .int .i64, .int .i64, .sl [.int .u8], .bool]
theorem M.Response.cT (d : List D) (h : mW M.Response.sh d) : ∃ x, d = M.Response.en x ∧ M.Response.ok x := by
  simp only [M.Response.sh, mW, Has] at h
  obtain ⟨_, _, rfl, ⟨a1, rfl, w1⟩, _, _, rfl, ⟨a2, rfl, w2⟩, _, _, rfl, ⟨a3, rfl, w3⟩, _, _, rfl, ⟨_, rfl, w4, q4⟩, _, _, rfl, ⟨a5, rfl⟩, rfl⟩ := h
  obtain ⟨a4, rfl, e4⟩ := bE aNi q4
  exact ⟨⟨a1, a2, a3, a4, a5⟩, rfl, ⟨wf_i64 w1, wf_i64 w2, wf_i64 w3, ⟨by simpa using w4, e4⟩⟩⟩
def M.Response.sz (x : M.Response) : Nat := x.Body.length
theorem M.Response.lQ (x : M.Response) (hx : M.Response.ok x) : Sz (qA x) (M.Response.sz x) := by
  intro l a b
  unfold qA M.Response.sz
  exact (Sz.call (M.aCh.lQ _ hx.Body)) l a b
theorem M.Response.kY (x : M.Response) (hx : M.Response.ok x) (hs : M.Response.sz x ≤ 1048576) : qX x = some x := by
  unfold M.Response.sz at hs
  unfold qX
  rw [M.aCh.kY _ hx.Body (by omega), Option.bind_some]
theorem M.Response.kJ (x : M.Response) (hx : M.Response.ok x) : qH x x = some true := by
  simp [qH, M.aCh.kJ _ hx.Body]
structure M.Cached.ok (x : M.Cached) : Prop where
  Site : x.Site.size ≤ maxLen
  Path : x.Path.size ≤ maxLen
  Response : M.Response.ok x.Response
def M.Cached.sh : List Shp := [.str, .str, .int .i64, .int .i64, .int .i64, .sl [.int .u8], .bool]
theorem M.Cached.cT (d : List D) (h : mW M.Cached.sh d) : ∃ x, d = M.Cached.en x ∧ M.Cached.ok x := by
  simp only [M.Cached.sh, mW, Has] at h
  obtain ⟨_, _, rfl, ⟨a1, rfl, w1⟩, _, _, rfl, ⟨a2, rfl, w2⟩, _, _, rfl, ⟨a3, rfl, w3⟩, _, _, rfl, ⟨a4, rfl, w4⟩, _, _, rfl, ⟨a5, rfl, w5⟩, _, _, rfl, ⟨_, rfl, w6, q6⟩, _, _, rfl, ⟨a7, rfl⟩, rfl⟩ := h
  obtain ⟨a6, rfl, e6⟩ := bE aNi q6
  exact ⟨⟨a1, a2, ⟨a3, a4, a5, a6, a7⟩⟩, rfl, ⟨w1, w2, ⟨wf_i64 w3, wf_i64 w4, wf_i64 w5, ⟨by simpa using w6, e6⟩⟩⟩⟩
def M.Cached.sz (x : M.Cached) : Nat := x.Site.size + (x.Path.size + (M.Response.sz x.Response))
theorem M.Cached.lQ (x : M.Cached) (hx : M.Cached.ok x) : Sz (wB x) (M.Cached.sz x) := by
  intro l a b
  unfold wB M.Cached.sz
  exact (Sz.aCH hx.Site (Sz.aCH hx.Path (Sz.call (M.Response.lQ _ hx.Response)))) l a b
theorem M.Cached.kY (x : M.Cached) (hx : M.Cached.ok x) (hs : M.Cached.sz x ≤ 1048576) : wV x = some x := by
  unfold M.Cached.sz at hs
  unfold wV
  rw [M.Response.kY _ hx.Response (by omega), Option.bind_some]
theorem M.Cached.kJ (x : M.Cached) (hx : M.Cached.ok x) : wN x x = some true := by
  simp [wN, M.Response.kJ _ hx.Response]
theorem M.aCe.lQ (xs : List M.Cached) (hx : (xs.length ≤ maxLen ∧ ∀ y ∈ xs, M.Cached.ok y)) : Sz (uP xs) ((xs.length + aD M.Cached.sz xs)) := by
  intro l a b
  unfold uP
  exact (Sz.aEL hx.1 (fun x h => M.Cached.lQ x (hx.2 x h)) (fun _ _ _ => rfl)) l a b
theorem M.aCe.kY (xs : List M.Cached) (hx : (xs.length ≤ maxLen ∧ ∀ y ∈ xs, M.Cached.ok y)) (hs : (xs.length + aD M.Cached.sz xs) ≤ 1048576) : tL xs = some xs := by
  have hm := le_max hx.1
  unfold tL
  rw [aAt (by omega) (by omega), Option.bind_some]
  refine aAO hx.1 (fun n k r hk hr => ?_) (fun n r => ?_) fuel 0 _ (by unfold fuel; omega) (by omega) (by simp) (by simp)
  · simp only [jK]
    rw [if_pos (bA hk), aN hk, Option.bind_some, M.Cached.kY _ (hx.2 _ (List.getElem_mem hk)) (by have := cA (f := M.Cached.sz) (List.getElem_mem hk); omega), Option.bind_some, aN (by omega), Option.bind_some, bD (by omega), Int.toNat_natCast]
  · simp only [jK]
    rw [if_neg (by rw [aO]; simp)]
theorem M.aCe.kJ (xs : List M.Cached) (hx : (xs.length ≤ maxLen ∧ ∀ y ∈ xs, M.Cached.ok y)) : tQ xs xs = some true := by
  have hm := le_max hx.1
  unfold tQ
  rw [if_neg (by simp)]
  refine aAR hx.1 (fun n k hk => ?_) (fun n => ?_) fuel 0 (by unfold fuel; omega) (by omega)
  · simp only [jN]
    rw [if_pos (bA hk), aN hk]
    simp [bD (show k < 9223372036854775807 by omega), M.Cached.kJ _ (hx.2 _ (List.getElem_mem hk))]
  · simp only [jN]
    rw [if_neg (by rw [aO]; simp)]
structure M.Cache.ok (x : M.Cache) : Prop where
  Version : inI x.Version
  Entries : (x.Entries.length ≤ maxLen ∧ ∀ y ∈ x.Entries, M.Cached.ok y)
def M.Cache.sh : List Shp := [.int .i64, .sl M.Cached.sh]
theorem M.Cache.cT (d : List D) (h : mW M.Cache.sh d) : ∃ x, d = M.Cache.en x ∧ M.Cache.ok x := by
  simp only [M.Cache.sh, mW, Has] at h
  obtain ⟨_, _, rfl, ⟨a1, rfl, w1⟩, _, _, rfl, ⟨_, rfl, w2, q2⟩, rfl⟩ := h
  obtain ⟨a2, rfl, e2⟩ := bE M.Cached.cT q2
  exact ⟨⟨a1, a2⟩, rfl, ⟨wf_i64 w1, ⟨by simpa using w2, e2⟩⟩⟩
def M.Cache.sz (x : M.Cache) : Nat := (x.Entries.length + aD M.Cached.sz x.Entries)
theorem M.Cache.lQ (x : M.Cache) (hx : M.Cache.ok x) : Sz (zZ x) (M.Cache.sz x) := by
  intro l a b
  unfold zZ M.Cache.sz
  exact (Sz.call (M.aCe.lQ _ hx.Entries)) l a b
theorem M.Cache.kY (x : M.Cache) (hx : M.Cache.ok x) (hs : M.Cache.sz x ≤ 1048576) : aAI x = some x := by
  unfold M.Cache.sz at hs
  unfold aAI
  rw [M.aCe.kY _ hx.Entries (by omega), Option.bind_some]
theorem M.Cache.kJ (x : M.Cache) (hx : M.Cache.ok x) : yR x x = some true := by
  simp [yR, M.aCe.kJ _ hx.Entries]
theorem M.aEJ.lQ (xs : List M.Cache) (hx : (xs.length ≤ maxLen ∧ ∀ y ∈ xs, M.Cache.ok y)) : Sz (xB xs) ((xs.length + aD M.Cache.sz xs)) := by
  intro l a b
  unfold xB
  exact (Sz.aEL hx.1 (fun x h => M.Cache.lQ x (hx.2 x h)) (fun _ _ _ => rfl)) l a b
theorem M.aEJ.kY (xs : List M.Cache) (hx : (xs.length ≤ maxLen ∧ ∀ y ∈ xs, M.Cache.ok y)) (hs : (xs.length + aD M.Cache.sz xs) ≤ 1048576) : wX xs = some xs := by
  have hm := le_max hx.1
  unfold wX
  rw [aAt (by omega) (by omega), Option.bind_some]
  refine aAO hx.1 (fun n k r hk hr => ?_) (fun n r => ?_) fuel 0 _ (by unfold fuel; omega) (by omega) (by simp) (by simp)
  · simp only [kZ]
    rw [if_pos (bA hk), aN hk, Option.bind_some, M.Cache.kY _ (hx.2 _ (List.getElem_mem hk)) (by have := cA (f := M.Cache.sz) (List.getElem_mem hk); omega), Option.bind_some, aN (by omega), Option.bind_some, bD (by omega), Int.toNat_natCast]
  · simp only [kZ]
    rw [if_neg (by rw [aO]; simp)]
theorem M.aEJ.kJ (xs : List M.Cache) (hx : (xs.length ≤ maxLen ∧ ∀ y ∈ xs, M.Cache.ok y)) : xE xs xs = some true := by
  have hm := le_max hx.1
  unfold xE
  rw [if_neg (by simp)]
  refine aAR hx.1 (fun n k hk => ?_) (fun n => ?_) fuel 0 (by unfold fuel; omega) (by omega)
  · simp only [kP]
    rw [if_pos (bA hk), aN hk]
    simp [bD (show k < 9223372036854775807 by omega), M.Cache.kJ _ (hx.2 _ (List.getElem_mem hk))]
  · simp only [kP]
    rw [if_neg (by rw [aO]; simp)]
structure M.aP.ok (x : M.aP) : Prop where
  Caches : (x.Caches.length ≤ maxLen ∧ ∀ y ∈ x.Caches, M.Cache.ok y)
def M.aP.sh : List Shp := [.sl M.Cache.sh]
theorem M.aP.cT (d : List D) (h : mW M.aP.sh d) : ∃ x, d = M.aP.en x ∧ M.aP.ok x := by
  simp only [M.aP.sh, mW, Has] at h
  obtain ⟨_, _, rfl, ⟨_, rfl, w1, q1⟩, rfl⟩ := h
  obtain ⟨a1, rfl, e1⟩ := bE M.Cache.cT q1
  exact ⟨⟨a1⟩, rfl, ⟨⟨by simpa using w1, e1⟩⟩⟩
def M.aP.sz (x : M.aP) : Nat := (x.Caches.length + aD M.Cache.sz x.Caches)
theorem M.aP.lQ (x : M.aP) (hx : M.aP.ok x) : Sz (rX x) (M.aP.sz x) := by
  intro l a b
  unfold rX M.aP.sz
  exact (Sz.call (M.aEJ.lQ _ hx.Caches)) l a b
theorem M.aP.kY (x : M.aP) (hx : M.aP.ok x) (hs : M.aP.sz x ≤ 1048576) : rD x = some x := by
  unfold M.aP.sz at hs
  unfold rD
  rw [M.aEJ.kY _ hx.Caches (by omega), Option.bind_some]
theorem M.aP.kJ (x : M.aP) (hx : M.aP.ok x) : qR x x = some true := by
  simp [qR, M.aEJ.kJ _ hx.Caches]
structure M.Key.ok (x : M.Key) : Prop where
  Kind : inI x.Kind
  N : inI x.N
  Text : x.Text.size ≤ maxLen
def M.Key.sh : List Shp := [.int .i64, .int .i64, .str]
theorem M.Key.cT (d : List D) (h : mW M.Key.sh d) : ∃ x, d = M.Key.en x ∧ M.Key.ok x := by
  simp only [M.Key.sh, mW, Has] at h
  obtain ⟨_, _, rfl, ⟨a1, rfl, w1⟩, _, _, rfl, ⟨a2, rfl, w2⟩, _, _, rfl, ⟨a3, rfl, w3⟩, rfl⟩ := h
  exact ⟨⟨a1, a2, a3⟩, rfl, ⟨wf_i64 w1, wf_i64 w2, w3⟩⟩
def M.Key.sz (x : M.Key) : Nat := x.Text.size
theorem M.Key.lQ (x : M.Key) (hx : M.Key.ok x) : Sz (aAP x) (M.Key.sz x) := by
  intro l a b
  unfold aAP M.Key.sz
  exact (Sz.str hx.Text) l a b
theorem M.Key.kY (x : M.Key) (hx : M.Key.ok x) (hs : M.Key.sz x ≤ 1048576) : aAN x = some x := by
  unfold M.Key.sz at hs
  unfold aAN
  rfl
theorem M.Key.kJ (x : M.Key) (hx : M.Key.ok x) : aAM x x = some true := by
  simp [aAM]
structure M.Field.ok (x : M.Field) : Prop where
  Name : x.Name.size ≤ maxLen
  N : inI x.N
def M.Field.sh : List Shp := [.str, .int .i64]
theorem M.Field.cT (d : List D) (h : mW M.Field.sh d) : ∃ x, d = M.Field.en x ∧ M.Field.ok x := by
  simp only [M.Field.sh, mW, Has] at h
  obtain ⟨_, _, rfl, ⟨a1, rfl, w1⟩, _, _, rfl, ⟨a2, rfl, w2⟩, rfl⟩ := h
  exact ⟨⟨a1, a2⟩, rfl, ⟨w1, wf_i64 w2⟩⟩
def M.Field.sz (x : M.Field) : Nat := x.Name.size
theorem M.Field.lQ (x : M.Field) (hx : M.Field.ok x) : Sz (zN x) (M.Field.sz x) := by
  intro l a b
  unfold zN M.Field.sz
  exact (Sz.str hx.Name) l a b
theorem M.Field.kY (x : M.Field) (hx : M.Field.ok x) (hs : M.Field.sz x ≤ 1048576) : yK x = some x := by
  unfold M.Field.sz at hs
  unfold yK
  rfl
theorem M.Field.kJ (x : M.Field) (hx : M.Field.ok x) : zW x x = some true := by
  simp [zW]
theorem M.aEv.lQ (xs : List M.Field) (hx : (xs.length ≤ maxLen ∧ ∀ y ∈ xs, M.Field.ok y)) : Sz (wI xs) ((xs.length + aD M.Field.sz xs)) := by
  intro l a b
  unfold wI
  exact (Sz.aEL hx.1 (fun x h => M.Field.lQ x (hx.2 x h)) (fun _ _ _ => rfl)) l a b
theorem M.aEv.kY (xs : List M.Field) (hx : (xs.length ≤ maxLen ∧ ∀ y ∈ xs, M.Field.ok y)) (hs : (xs.length + aD M.Field.sz xs) ≤ 1048576) : wF xs = some xs := by
  have hm := le_max hx.1
  unfold wF
  rw [aAt (by omega) (by omega), Option.bind_some]
  refine aAO hx.1 (fun n k r hk hr => ?_) (fun n r => ?_) fuel 0 _ (by unfold fuel; omega) (by omega) (by simp) (by simp)
  · simp only [kT]
    rw [if_pos (bA hk), aN hk, Option.bind_some, M.Field.kY _ (hx.2 _ (List.getElem_mem hk)) (by have := cA (f := M.Field.sz) (List.getElem_mem hk); omega), Option.bind_some, aN (by omega), Option.bind_some, bD (by omega), Int.toNat_natCast]
  · simp only [kT]
    rw [if_neg (by rw [aO]; simp)]
theorem M.aEv.kJ (xs : List M.Field) (hx : (xs.length ≤ maxLen ∧ ∀ y ∈ xs, M.Field.ok y)) : xP xs xs = some true := by
  have hm := le_max hx.1
  unfold xP
  rw [if_neg (by simp)]
  refine aAR hx.1 (fun n k hk => ?_) (fun n => ?_) fuel 0 (by unfold fuel; omega) (by omega)
  · simp only [kM]
    rw [if_pos (bA hk), aN hk]
    simp [bD (show k < 9223372036854775807 by omega), M.Field.kJ _ (hx.2 _ (List.getElem_mem hk))]
  · simp only [kM]
    rw [if_neg (by rw [aO]; simp)]
structure M.aU.ok (x : M.aU) : Prop where
  Fields : (x.Fields.length ≤ maxLen ∧ ∀ y ∈ x.Fields, M.Field.ok y)
def M.aU.sh : List Shp := [.sl M.Field.sh]
theorem M.aU.cT (d : List D) (h : mW M.aU.sh d) : ∃ x, d = M.aU.en x ∧ M.aU.ok x := by
  simp only [M.aU.sh, mW, Has] at h
  obtain ⟨_, _, rfl, ⟨_, rfl, w1, q1⟩, rfl⟩ := h
  obtain ⟨a1, rfl, e1⟩ := bE M.Field.cT q1
  exact ⟨⟨a1⟩, rfl, ⟨⟨by simpa using w1, e1⟩⟩⟩
def M.aU.sz (x : M.aU) : Nat := (x.Fields.length + aD M.Field.sz x.Fields)
theorem M.aU.lQ (x : M.aU) (hx : M.aU.ok x) : Sz (xJ x) (M.aU.sz x) := by
  intro l a b
  unfold xJ M.aU.sz
  exact (Sz.call (M.aEv.lQ _ hx.Fields)) l a b
theorem M.aU.kY (x : M.aU) (hx : M.aU.ok x) (hs : M.aU.sz x ≤ 1048576) : xQ x = some x := by
  unfold M.aU.sz at hs
  unfold xQ
  rw [M.aEv.kY _ hx.Fields (by omega), Option.bind_some]
theorem M.aU.kJ (x : M.aU) (hx : M.aU.ok x) : wQ x x = some true := by
  simp [wQ, M.aEv.kJ _ hx.Fields]
structure M.Item.ok (x : M.Item) : Prop where
  Key : M.Key.ok x.Key
  aU : M.aU.ok x.aU
def M.Item.sh : List Shp := [.int .i64, .int .i64, .str, .sl M.Field.sh]
theorem M.Item.cT (d : List D) (h : mW M.Item.sh d) : ∃ x, d = M.Item.en x ∧ M.Item.ok x := by
  simp only [M.Item.sh, mW, Has] at h
  obtain ⟨_, _, rfl, ⟨a1, rfl, w1⟩, _, _, rfl, ⟨a2, rfl, w2⟩, _, _, rfl, ⟨a3, rfl, w3⟩, _, _, rfl, ⟨_, rfl, w4, q4⟩, rfl⟩ := h
  obtain ⟨a4, rfl, e4⟩ := bE M.Field.cT q4
  exact ⟨⟨⟨a1, a2, a3⟩, ⟨a4⟩⟩, rfl, ⟨⟨wf_i64 w1, wf_i64 w2, w3⟩, ⟨⟨by simpa using w4, e4⟩⟩⟩⟩
def M.Item.sz (x : M.Item) : Nat := M.Key.sz x.Key + (M.aU.sz x.aU)
theorem M.Item.lQ (x : M.Item) (hx : M.Item.ok x) : Sz (aAy x) (M.Item.sz x) := by
  intro l a b
  unfold aAy M.Item.sz
  exact (Sz.sO (M.Key.lQ _ hx.Key) (Sz.call (M.aU.lQ _ hx.aU))) l a b
theorem M.Item.kY (x : M.Item) (hx : M.Item.ok x) (hs : M.Item.sz x ≤ 1048576) : aAj x = some x := by
  unfold M.Item.sz at hs
  unfold aAj
  rw [M.Key.kY _ hx.Key (by omega), Option.bind_some, M.aU.kY _ hx.aU (by omega), Option.bind_some]
theorem M.Item.kJ (x : M.Item) (hx : M.Item.ok x) : aA1 x x = some true := by
  simp [aA1, M.Key.kJ _ hx.Key, M.aU.kJ _ hx.aU]
theorem M.aFZ.lQ (xs : List M.Item) (hx : (xs.length ≤ maxLen ∧ ∀ y ∈ xs, M.Item.ok y)) : Sz (yS xs) ((xs.length + aD M.Item.sz xs)) := by
  intro l a b
  unfold yS
  exact (Sz.aEL hx.1 (fun x h => M.Item.lQ x (hx.2 x h)) (fun _ _ _ => rfl)) l a b
theorem M.aFZ.kY (xs : List M.Item) (hx : (xs.length ≤ maxLen ∧ ∀ y ∈ xs, M.Item.ok y)) (hs : (xs.length + aD M.Item.sz xs) ≤ 1048576) : zC xs = some xs := by
  have hm := le_max hx.1
  unfold zC
  rw [aAt (by omega) (by omega), Option.bind_some]
  refine aAO hx.1 (fun n k r hk hr => ?_) (fun n r => ?_) fuel 0 _ (by unfold fuel; omega) (by omega) (by simp) (by simp)
  · simp only [mG]
    rw [if_pos (bA hk), aN hk, Option.bind_some, M.Item.kY _ (hx.2 _ (List.getElem_mem hk)) (by have := cA (f := M.Item.sz) (List.getElem_mem hk); omega), Option.bind_some, aN (by omega), Option.bind_some, bD (by omega), Int.toNat_natCast]
  · simp only [mG]
    rw [if_neg (by rw [aO]; simp)]
theorem M.aFZ.kJ (xs : List M.Item) (hx : (xs.length ≤ maxLen ∧ ∀ y ∈ xs, M.Item.ok y)) : yO xs xs = some true := by
  have hm := le_max hx.1
  unfold yO
  rw [if_neg (by simp)]
  refine aAR hx.1 (fun n k hk => ?_) (fun n => ?_) fuel 0 (by unfold fuel; omega) (by omega)
  · simp only [mC]
    rw [if_pos (bA hk), aN hk]
    simp [bD (show k < 9223372036854775807 by omega), M.Item.kJ _ (hx.2 _ (List.getElem_mem hk))]
  · simp only [mC]
    rw [if_neg (by rw [aO]; simp)]
structure M.aG.ok (x : M.aG) : Prop where
  Name : x.Name.size ≤ maxLen
  Items : (x.Items.length ≤ maxLen ∧ ∀ y ∈ x.Items, M.Item.ok y)
  Auto : inI x.Auto
def M.aG.sh : List Shp := [.str, .sl M.Item.sh, .int .i64]
theorem M.aG.cT (d : List D) (h : mW M.aG.sh d) : ∃ x, d = M.aG.en x ∧ M.aG.ok x := by
  simp only [M.aG.sh, mW, Has] at h
  obtain ⟨_, _, rfl, ⟨a1, rfl, w1⟩, _, _, rfl, ⟨_, rfl, w2, q2⟩, _, _, rfl, ⟨a3, rfl, w3⟩, rfl⟩ := h
  obtain ⟨a2, rfl, e2⟩ := bE M.Item.cT q2
  exact ⟨⟨a1, a2, a3⟩, rfl, ⟨w1, ⟨by simpa using w2, e2⟩, wf_i64 w3⟩⟩
def M.aG.sz (x : M.aG) : Nat := x.Name.size + ((x.Items.length + aD M.Item.sz x.Items))
theorem M.aG.lQ (x : M.aG) (hx : M.aG.ok x) : Sz (pJ x) (M.aG.sz x) := by
  intro l a b
  unfold pJ M.aG.sz
  exact (Sz.aCH hx.Name (Sz.call (M.aFZ.lQ _ hx.Items))) l a b
theorem M.aG.kY (x : M.aG) (hx : M.aG.ok x) (hs : M.aG.sz x ≤ 1048576) : pQ x = some x := by
  unfold M.aG.sz at hs
  unfold pQ
  rw [M.aFZ.kY _ hx.Items (by omega), Option.bind_some]
theorem M.aG.kJ (x : M.aG) (hx : M.aG.ok x) : pP x x = some true := by
  simp [pP, M.aFZ.kJ _ hx.Items]
theorem M.aEf.lQ (xs : List M.aG) (hx : (xs.length ≤ maxLen ∧ ∀ y ∈ xs, M.aG.ok y)) : Sz (xO xs) ((xs.length + aD M.aG.sz xs)) := by
  intro l a b
  unfold xO
  exact (Sz.aEL hx.1 (fun x h => M.aG.lQ x (hx.2 x h)) (fun _ _ _ => rfl)) l a b
theorem M.aEf.kY (xs : List M.aG) (hx : (xs.length ≤ maxLen ∧ ∀ y ∈ xs, M.aG.ok y)) (hs : (xs.length + aD M.aG.sz xs) ≤ 1048576) : xI xs = some xs := by
  have hm := le_max hx.1
  unfold xI
  rw [aAt (by omega) (by omega), Option.bind_some]
  refine aAO hx.1 (fun n k r hk hr => ?_) (fun n r => ?_) fuel 0 _ (by unfold fuel; omega) (by omega) (by simp) (by simp)
  · simp only [kV]
    rw [if_pos (bA hk), aN hk, Option.bind_some, M.aG.kY _ (hx.2 _ (List.getElem_mem hk)) (by have := cA (f := M.aG.sz) (List.getElem_mem hk); omega), Option.bind_some, aN (by omega), Option.bind_some, bD (by omega), Int.toNat_natCast]
  · simp only [kV]
    rw [if_neg (by rw [aO]; simp)]
theorem M.aEf.kJ (xs : List M.aG) (hx : (xs.length ≤ maxLen ∧ ∀ y ∈ xs, M.aG.ok y)) : xF xs xs = some true := by
  have hm := le_max hx.1
  unfold xF
  rw [if_neg (by simp)]
  refine aAR hx.1 (fun n k hk => ?_) (fun n => ?_) fuel 0 (by unfold fuel; omega) (by omega)
  · simp only [kL]
    rw [if_pos (bA hk), aN hk]
    simp [bD (show k < 9223372036854775807 by omega), M.aG.kJ _ (hx.2 _ (List.getElem_mem hk))]
  · simp only [kL]
    rw [if_neg (by rw [aO]; simp)]
structure M.aA.ok (x : M.aA) : Prop where
  aG : x.aG.size ≤ maxLen
  Field : x.Field.size ≤ maxLen
def M.aA.sh : List Shp := [.str, .str]
theorem M.aA.cT (d : List D) (h : mW M.aA.sh d) : ∃ x, d = M.aA.en x ∧ M.aA.ok x := by
  simp only [M.aA.sh, mW, Has] at h
  obtain ⟨_, _, rfl, ⟨a1, rfl, w1⟩, _, _, rfl, ⟨a2, rfl, w2⟩, rfl⟩ := h
  exact ⟨⟨a1, a2⟩, rfl, ⟨w1, w2⟩⟩
def M.aA.sz (x : M.aA) : Nat := x.aG.size + (x.Field.size)
theorem M.aA.lQ (x : M.aA) (hx : M.aA.ok x) : Sz (rO x) (M.aA.sz x) := by
  intro l a b
  unfold rO M.aA.sz
  exact (Sz.aCH hx.aG (Sz.str hx.Field)) l a b
theorem M.aA.kY (x : M.aA) (hx : M.aA.ok x) (hs : M.aA.sz x ≤ 1048576) : qC x = some x := by
  unfold M.aA.sz at hs
  unfold qC
  rfl
theorem M.aA.kJ (x : M.aA) (hx : M.aA.ok x) : sA x x = some true := by
  simp [sA]
theorem M.aAx.lQ (xs : List M.aA) (hx : (xs.length ≤ maxLen ∧ ∀ y ∈ xs, M.aA.ok y)) : Sz (nV xs) ((xs.length + aD M.aA.sz xs)) := by
  intro l a b
  unfold nV
  exact (Sz.aEL hx.1 (fun x h => M.aA.lQ x (hx.2 x h)) (fun _ _ _ => rfl)) l a b
theorem M.aAx.kY (xs : List M.aA) (hx : (xs.length ≤ maxLen ∧ ∀ y ∈ xs, M.aA.ok y)) (hs : (xs.length + aD M.aA.sz xs) ≤ 1048576) : oS xs = some xs := by
  have hm := le_max hx.1
  unfold oS
  rw [aAt (by omega) (by omega), Option.bind_some]
  refine aAO hx.1 (fun n k r hk hr => ?_) (fun n r => ?_) fuel 0 _ (by unfold fuel; omega) (by omega) (by simp) (by simp)
  · simp only [iM]
    rw [if_pos (bA hk), aN hk, Option.bind_some, M.aA.kY _ (hx.2 _ (List.getElem_mem hk)) (by have := cA (f := M.aA.sz) (List.getElem_mem hk); omega), Option.bind_some, aN (by omega), Option.bind_some, bD (by omega), Int.toNat_natCast]
  · simp only [iM]
    rw [if_neg (by rw [aO]; simp)]
theorem M.aAx.kJ (xs : List M.aA) (hx : (xs.length ≤ maxLen ∧ ∀ y ∈ xs, M.aA.ok y)) : oD xs xs = some true := by
  have hm := le_max hx.1
  unfold oD
  rw [if_neg (by simp)]
  refine aAR hx.1 (fun n k hk => ?_) (fun n => ?_) fuel 0 (by unfold fuel; omega) (by omega)
  · simp only [iL]
    rw [if_pos (bA hk), aN hk]
    simp [bD (show k < 9223372036854775807 by omega), M.aA.kJ _ (hx.2 _ (List.getElem_mem hk))]
  · simp only [iL]
    rw [if_neg (by rw [aO]; simp)]
structure M.Database.ok (x : M.Database) : Prop where
  Name : x.Name.size ≤ maxLen
  Version : inI x.Version
  Stores : (x.Stores.length ≤ maxLen ∧ ∀ y ∈ x.Stores, M.aG.ok y)
  Unique : (x.Unique.length ≤ maxLen ∧ ∀ y ∈ x.Unique, M.aA.ok y)
def M.Database.sh : List Shp := [.str, .int .i64, .sl M.aG.sh, .sl M.aA.sh]
theorem M.Database.cT (d : List D) (h : mW M.Database.sh d) : ∃ x, d = M.Database.en x ∧ M.Database.ok x := by
  simp only [M.Database.sh, mW, Has] at h
  obtain ⟨_, _, rfl, ⟨a1, rfl, w1⟩, _, _, rfl, ⟨a2, rfl, w2⟩, _, _, rfl, ⟨_, rfl, w3, q3⟩, _, _, rfl, ⟨_, rfl, w4, q4⟩, rfl⟩ := h
  obtain ⟨a3, rfl, e3⟩ := bE M.aG.cT q3
  obtain ⟨a4, rfl, e4⟩ := bE M.aA.cT q4
  exact ⟨⟨a1, a2, a3, a4⟩, rfl, ⟨w1, wf_i64 w2, ⟨by simpa using w3, e3⟩, ⟨by simpa using w4, e4⟩⟩⟩
def M.Database.sz (x : M.Database) : Nat := x.Name.size + ((x.Stores.length + aD M.aG.sz x.Stores) + ((x.Unique.length + aD M.aA.sz x.Unique)))
theorem M.Database.lQ (x : M.Database) (hx : M.Database.ok x) : Sz (pZ x) (M.Database.sz x) := by
  intro l a b
  unfold pZ M.Database.sz
  exact (Sz.aCH hx.Name (Sz.sO (M.aEf.lQ _ hx.Stores) (Sz.call (M.aAx.lQ _ hx.Unique)))) l a b
theorem M.Database.kY (x : M.Database) (hx : M.Database.ok x) (hs : M.Database.sz x ≤ 1048576) : qL x = some x := by
  unfold M.Database.sz at hs
  unfold qL
  rw [M.aEf.kY _ hx.Stores (by omega), Option.bind_some, M.aAx.kY _ hx.Unique (by omega), Option.bind_some]
theorem M.Database.kJ (x : M.Database) (hx : M.Database.ok x) : rL x x = some true := by
  simp [rL, M.aEf.kJ _ hx.Stores, M.aAx.kJ _ hx.Unique]
structure M.bF.ok (x : M.bF) : Prop where
  Base : M.Database.ok x.Base
  Log : okB x.Log
  Count : inI x.Count
def M.bF.sh : List Shp := [.str, .int .i64, .sl M.aG.sh, .sl M.aA.sh, .sl [.int .u8], .int .i64]
theorem M.bF.cT (d : List D) (h : mW M.bF.sh d) : ∃ x, d = M.bF.en x ∧ M.bF.ok x := by
  simp only [M.bF.sh, mW, Has] at h
  obtain ⟨_, _, rfl, ⟨a1, rfl, w1⟩, _, _, rfl, ⟨a2, rfl, w2⟩, _, _, rfl, ⟨_, rfl, w3, q3⟩, _, _, rfl, ⟨_, rfl, w4, q4⟩, _, _, rfl, ⟨_, rfl, w5, q5⟩, _, _, rfl, ⟨a6, rfl, w6⟩, rfl⟩ := h
  obtain ⟨a3, rfl, e3⟩ := bE M.aG.cT q3
  obtain ⟨a4, rfl, e4⟩ := bE M.aA.cT q4
  obtain ⟨a5, rfl, e5⟩ := bE aNi q5
  exact ⟨⟨⟨a1, a2, a3, a4⟩, a5, a6⟩, rfl, ⟨⟨w1, wf_i64 w2, ⟨by simpa using w3, e3⟩, ⟨by simpa using w4, e4⟩⟩, ⟨by simpa using w5, e5⟩, wf_i64 w6⟩⟩
def M.bF.sz (x : M.bF) : Nat := M.Database.sz x.Base + (x.Log.length)
theorem M.bF.lQ (x : M.bF) (hx : M.bF.ok x) : Sz (aAo x) (M.bF.sz x) := by
  intro l a b
  unfold aAo M.bF.sz
  exact (Sz.sO (M.Database.lQ _ hx.Base) (Sz.call (M.aCh.lQ _ hx.Log))) l a b
theorem M.bF.kY (x : M.bF) (hx : M.bF.ok x) (hs : M.bF.sz x ≤ 1048576) : aA6 x = some x := by
  unfold M.bF.sz at hs
  unfold aA6
  rw [M.Database.kY _ hx.Base (by omega), Option.bind_some, M.aCh.kY _ hx.Log (by omega), Option.bind_some]
theorem M.bF.kJ (x : M.bF) (hx : M.bF.ok x) : aAW x x = some true := by
  simp [aAW, M.Database.kJ _ hx.Base, M.aCh.kJ _ hx.Log]
structure M.aW.ok (x : M.aW) : Prop where
  Device : inI x.Device
  Seq : inI x.Seq
  Key : M.Key.ok x.Key
  Field : x.Field.size ≤ maxLen
  N : inI x.N
def M.aW.sh : List Shp := [.int .i64, .int .i64, .int .i64, .int .i64, .str, .str, .int .i64]
theorem M.aW.cT (d : List D) (h : mW M.aW.sh d) : ∃ x, d = M.aW.en x ∧ M.aW.ok x := by
  simp only [M.aW.sh, mW, Has] at h
  obtain ⟨_, _, rfl, ⟨a1, rfl, w1⟩, _, _, rfl, ⟨a2, rfl, w2⟩, _, _, rfl, ⟨a3, rfl, w3⟩, _, _, rfl, ⟨a4, rfl, w4⟩, _, _, rfl, ⟨a5, rfl, w5⟩, _, _, rfl, ⟨a6, rfl, w6⟩, _, _, rfl, ⟨a7, rfl, w7⟩, rfl⟩ := h
  exact ⟨⟨a1, a2, ⟨a3, a4, a5⟩, a6, a7⟩, rfl, ⟨wf_i64 w1, wf_i64 w2, ⟨wf_i64 w3, wf_i64 w4, w5⟩, w6, wf_i64 w7⟩⟩
def M.aW.sz (x : M.aW) : Nat := M.Key.sz x.Key + (x.Field.size)
theorem M.aW.lQ (x : M.aW) (hx : M.aW.ok x) : Sz (aAH x) (M.aW.sz x) := by
  intro l a b
  unfold aAH M.aW.sz
  exact (Sz.sO (M.Key.lQ _ hx.Key) (Sz.str hx.Field)) l a b
theorem M.aW.kY (x : M.aW) (hx : M.aW.ok x) (hs : M.aW.sz x ≤ 1048576) : zL x = some x := by
  unfold M.aW.sz at hs
  unfold zL
  rw [M.Key.kY _ hx.Key (by omega), Option.bind_some]
theorem M.aW.kJ (x : M.aW) (hx : M.aW.ok x) : zB x x = some true := by
  simp [zB, M.Key.kJ _ hx.Key]
theorem M.aCI.lQ (xs : List M.aW) (hx : (xs.length ≤ maxLen ∧ ∀ y ∈ xs, M.aW.ok y)) : Sz (sD xs) ((xs.length + aD M.aW.sz xs)) := by
  intro l a b
  unfold sD
  exact (Sz.aEL hx.1 (fun x h => M.aW.lQ x (hx.2 x h)) (fun _ _ _ => rfl)) l a b
theorem M.aCI.kY (xs : List M.aW) (hx : (xs.length ≤ maxLen ∧ ∀ y ∈ xs, M.aW.ok y)) (hs : (xs.length + aD M.aW.sz xs) ≤ 1048576) : qV xs = some xs := by
  have hm := le_max hx.1
  unfold qV
  rw [aAt (by omega) (by omega), Option.bind_some]
  refine aAO hx.1 (fun n k r hk hr => ?_) (fun n r => ?_) fuel 0 _ (by unfold fuel; omega) (by omega) (by simp) (by simp)
  · simp only [kQ]
    rw [if_pos (bA hk), aN hk, Option.bind_some, M.aW.kY _ (hx.2 _ (List.getElem_mem hk)) (by have := cA (f := M.aW.sz) (List.getElem_mem hk); omega), Option.bind_some, aN (by omega), Option.bind_some, bD (by omega), Int.toNat_natCast]
  · simp only [kQ]
    rw [if_neg (by rw [aO]; simp)]
theorem M.aCI.kJ (xs : List M.aW) (hx : (xs.length ≤ maxLen ∧ ∀ y ∈ xs, M.aW.ok y)) : qO xs xs = some true := by
  have hm := le_max hx.1
  unfold qO
  rw [if_neg (by simp)]
  refine aAR hx.1 (fun n k hk => ?_) (fun n => ?_) fuel 0 (by unfold fuel; omega) (by omega)
  · simp only [kN]
    rw [if_pos (bA hk), aN hk]
    simp [bD (show k < 9223372036854775807 by omega), M.aW.kJ _ (hx.2 _ (List.getElem_mem hk))]
  · simp only [kN]
    rw [if_neg (by rw [aO]; simp)]
structure M.aV.ok (x : M.aV) : Prop where
  Device : inI x.Device
  Next : inI x.Next
  Writes : (x.Writes.length ≤ maxLen ∧ ∀ y ∈ x.Writes, M.aW.ok y)
def M.aV.sh : List Shp := [.int .i64, .int .i64, .sl M.aW.sh]
theorem M.aV.cT (d : List D) (h : mW M.aV.sh d) : ∃ x, d = M.aV.en x ∧ M.aV.ok x := by
  simp only [M.aV.sh, mW, Has] at h
  obtain ⟨_, _, rfl, ⟨a1, rfl, w1⟩, _, _, rfl, ⟨a2, rfl, w2⟩, _, _, rfl, ⟨_, rfl, w3, q3⟩, rfl⟩ := h
  obtain ⟨a3, rfl, e3⟩ := bE M.aW.cT q3
  exact ⟨⟨a1, a2, a3⟩, rfl, ⟨wf_i64 w1, wf_i64 w2, ⟨by simpa using w3, e3⟩⟩⟩
def M.aV.sz (x : M.aV) : Nat := (x.Writes.length + aD M.aW.sz x.Writes)
theorem M.aV.lQ (x : M.aV) (hx : M.aV.ok x) : Sz (xA x) (M.aV.sz x) := by
  intro l a b
  unfold xA M.aV.sz
  exact (Sz.call (M.aCI.lQ _ hx.Writes)) l a b
theorem M.aV.kY (x : M.aV) (hx : M.aV.ok x) (hs : M.aV.sz x ≤ 1048576) : wA x = some x := by
  unfold M.aV.sz at hs
  unfold wA
  rw [M.aCI.kY _ hx.Writes (by omega), Option.bind_some]
theorem M.aV.kJ (x : M.aV) (hx : M.aV.ok x) : wD x x = some true := by
  simp [wD, M.aCI.kJ _ hx.Writes]
structure M.Sync.ok (x : M.Sync) : Prop where
  aV : M.aV.ok x.aV
  Tries : inI x.Tries
  WaitUntil : inI x.WaitUntil
def M.Sync.sh : List Shp := [.int .i64, .int .i64, .sl M.aW.sh, .int .i64, .int .i64]
theorem M.Sync.cT (d : List D) (h : mW M.Sync.sh d) : ∃ x, d = M.Sync.en x ∧ M.Sync.ok x := by
  simp only [M.Sync.sh, mW, Has] at h
  obtain ⟨_, _, rfl, ⟨a1, rfl, w1⟩, _, _, rfl, ⟨a2, rfl, w2⟩, _, _, rfl, ⟨_, rfl, w3, q3⟩, _, _, rfl, ⟨a4, rfl, w4⟩, _, _, rfl, ⟨a5, rfl, w5⟩, rfl⟩ := h
  obtain ⟨a3, rfl, e3⟩ := bE M.aW.cT q3
  exact ⟨⟨⟨a1, a2, a3⟩, a4, a5⟩, rfl, ⟨⟨wf_i64 w1, wf_i64 w2, ⟨by simpa using w3, e3⟩⟩, wf_i64 w4, wf_i64 w5⟩⟩
def M.Sync.sz (x : M.Sync) : Nat := M.aV.sz x.aV
theorem M.Sync.lQ (x : M.Sync) (hx : M.Sync.ok x) : Sz (aAm x) (M.Sync.sz x) := by
  intro l a b
  unfold aAm M.Sync.sz
  exact (Sz.call (M.aV.lQ _ hx.aV)) l a b
theorem M.Sync.kY (x : M.Sync) (hx : M.Sync.ok x) (hs : M.Sync.sz x ≤ 1048576) : aAi x = some x := by
  unfold M.Sync.sz at hs
  unfold aAi
  rw [M.aV.kY _ hx.aV (by omega), Option.bind_some]
theorem M.Sync.kJ (x : M.Sync) (hx : M.Sync.ok x) : aAu x x = some true := by
  simp [aAu, M.aV.kJ _ hx.aV]
structure M.aC.ok (x : M.aC) : Prop where
  Base : M.aG.ok x.Base
  Seen : inI x.Seen
  Sync : M.Sync.ok x.Sync
def M.aC.sh : List Shp := [.str, .sl M.Item.sh, .int .i64, .int .i64, .int .i64, .int .i64, .sl M.aW.sh, .int .i64, .int .i64]
theorem M.aC.cT (d : List D) (h : mW M.aC.sh d) : ∃ x, d = M.aC.en x ∧ M.aC.ok x := by
  simp only [M.aC.sh, mW, Has] at h
  obtain ⟨_, _, rfl, ⟨a1, rfl, w1⟩, _, _, rfl, ⟨_, rfl, w2, q2⟩, _, _, rfl, ⟨a3, rfl, w3⟩, _, _, rfl, ⟨a4, rfl, w4⟩, _, _, rfl, ⟨a5, rfl, w5⟩, _, _, rfl, ⟨a6, rfl, w6⟩, _, _, rfl, ⟨_, rfl, w7, q7⟩, _, _, rfl, ⟨a8, rfl, w8⟩, _, _, rfl, ⟨a9, rfl, w9⟩, rfl⟩ := h
  obtain ⟨a2, rfl, e2⟩ := bE M.Item.cT q2
  obtain ⟨a7, rfl, e7⟩ := bE M.aW.cT q7
  exact ⟨⟨⟨a1, a2, a3⟩, a4, ⟨⟨a5, a6, a7⟩, a8, a9⟩⟩, rfl, ⟨⟨w1, ⟨by simpa using w2, e2⟩, wf_i64 w3⟩, wf_i64 w4, ⟨⟨wf_i64 w5, wf_i64 w6, ⟨by simpa using w7, e7⟩⟩, wf_i64 w8, wf_i64 w9⟩⟩⟩
def M.aC.sz (x : M.aC) : Nat := M.aG.sz x.Base + (M.Sync.sz x.Sync)
theorem M.aC.lQ (x : M.aC) (hx : M.aC.ok x) : Sz (uO x) (M.aC.sz x) := by
  intro l a b
  unfold uO M.aC.sz
  exact (Sz.sO (M.aG.lQ _ hx.Base) (Sz.call (M.Sync.lQ _ hx.Sync))) l a b
theorem M.aC.kY (x : M.aC) (hx : M.aC.ok x) (hs : M.aC.sz x ≤ 1048576) : tV x = some x := by
  unfold M.aC.sz at hs
  unfold tV
  rw [M.aG.kY _ hx.Base (by omega), Option.bind_some, M.Sync.kY _ hx.Sync (by omega), Option.bind_some]
theorem M.aC.kJ (x : M.aC) (hx : M.aC.ok x) : uG x x = some true := by
  simp [uG, M.aG.kJ _ hx.Base, M.Sync.kJ _ hx.Sync]
structure M.aE.ok (x : M.aE) : Prop where
  Site : x.Site.size ≤ maxLen
  Top : x.Top.size ≤ maxLen
  Registration : M.Registration.ok x.Registration
  Caches : M.aP.ok x.Caches
  bF : M.bF.ok x.bF
  aC : M.aC.ok x.aC
  LastUsed : inI x.LastUsed
def M.aE.sh : List Shp := [.str, .str, .str, .int .i64, .int .i64, .int .i64, .sl M.Cache.sh, .str, .int .i64, .sl M.aG.sh, .sl M.aA.sh, .sl [.int .u8], .int .i64, .str, .sl M.Item.sh, .int .i64, .int .i64, .int .i64, .int .i64, .sl M.aW.sh, .int .i64, .int .i64, .int .i64, .bool]
theorem M.aE.cT (d : List D) (h : mW M.aE.sh d) : ∃ x, d = M.aE.en x ∧ M.aE.ok x := by
  simp only [M.aE.sh, mW, Has] at h
  obtain ⟨_, _, rfl, ⟨a1, rfl, w1⟩, _, _, rfl, ⟨a2, rfl, w2⟩, _, _, rfl, ⟨a3, rfl, w3⟩, _, _, rfl, ⟨a4, rfl, w4⟩, _, _, rfl, ⟨a5, rfl, w5⟩, _, _, rfl, ⟨a6, rfl, w6⟩, _, _, rfl, ⟨_, rfl, w7, q7⟩, _, _, rfl, ⟨a8, rfl, w8⟩, _, _, rfl, ⟨a9, rfl, w9⟩, _, _, rfl, ⟨_, rfl, w10, q10⟩, _, _, rfl, ⟨_, rfl, w11, q11⟩, _, _, rfl, ⟨_, rfl, w12, q12⟩, _, _, rfl, ⟨a13, rfl, w13⟩, _, _, rfl, ⟨a14, rfl, w14⟩, _, _, rfl, ⟨_, rfl, w15, q15⟩, _, _, rfl, ⟨a16, rfl, w16⟩, _, _, rfl, ⟨a17, rfl, w17⟩, _, _, rfl, ⟨a18, rfl, w18⟩, _, _, rfl, ⟨a19, rfl, w19⟩, _, _, rfl, ⟨_, rfl, w20, q20⟩, _, _, rfl, ⟨a21, rfl, w21⟩, _, _, rfl, ⟨a22, rfl, w22⟩, _, _, rfl, ⟨a23, rfl, w23⟩, _, _, rfl, ⟨a24, rfl⟩, rfl⟩ := h
  obtain ⟨a7, rfl, e7⟩ := bE M.Cache.cT q7
  obtain ⟨a10, rfl, e10⟩ := bE M.aG.cT q10
  obtain ⟨a11, rfl, e11⟩ := bE M.aA.cT q11
  obtain ⟨a12, rfl, e12⟩ := bE aNi q12
  obtain ⟨a15, rfl, e15⟩ := bE M.Item.cT q15
  obtain ⟨a20, rfl, e20⟩ := bE M.aW.cT q20
  exact ⟨⟨a1, a2, ⟨a3, a4, a5, a6⟩, ⟨a7⟩, ⟨⟨a8, a9, a10, a11⟩, a12, a13⟩, ⟨⟨a14, a15, a16⟩, a17, ⟨⟨a18, a19, a20⟩, a21, a22⟩⟩, a23, a24⟩, rfl, ⟨w1, w2, ⟨w3, wf_i64 w4, wf_i64 w5, wf_i64 w6⟩, ⟨⟨by simpa using w7, e7⟩⟩, ⟨⟨w8, wf_i64 w9, ⟨by simpa using w10, e10⟩, ⟨by simpa using w11, e11⟩⟩, ⟨by simpa using w12, e12⟩, wf_i64 w13⟩, ⟨⟨w14, ⟨by simpa using w15, e15⟩, wf_i64 w16⟩, wf_i64 w17, ⟨⟨wf_i64 w18, wf_i64 w19, ⟨by simpa using w20, e20⟩⟩, wf_i64 w21, wf_i64 w22⟩⟩, wf_i64 w23⟩⟩
def M.aE.sz (x : M.aE) : Nat := x.Site.size + (x.Top.size + (M.Registration.sz x.Registration + (M.aP.sz x.Caches + (M.bF.sz x.bF + (M.aC.sz x.aC)))))
theorem M.aE.lQ (x : M.aE) (hx : M.aE.ok x) : Sz (xN x) (M.aE.sz x) := by
  intro l a b
  unfold xN M.aE.sz
  exact (Sz.aCH hx.Site (Sz.aCH hx.Top (Sz.sO (M.Registration.lQ _ hx.Registration) (Sz.sO (M.aP.lQ _ hx.Caches) (Sz.sO (M.bF.lQ _ hx.bF) (Sz.call (M.aC.lQ _ hx.aC))))))) l a b
theorem M.aE.kY (x : M.aE) (hx : M.aE.ok x) (hs : M.aE.sz x ≤ 1048576) : wG x = some x := by
  unfold M.aE.sz at hs
  unfold wG
  rw [M.Registration.kY _ hx.Registration (by omega), Option.bind_some, M.aP.kY _ hx.Caches (by omega), Option.bind_some, M.bF.kY _ hx.bF (by omega), Option.bind_some, M.aC.kY _ hx.aC (by omega), Option.bind_some]
theorem M.aE.kJ (x : M.aE) (hx : M.aE.ok x) : xR x x = some true := by
  simp [xR, M.Registration.kJ _ hx.Registration, M.aP.kJ _ hx.Caches, M.bF.kJ _ hx.bF, M.aC.kJ _ hx.aC]
theorem M.aCp.lQ (xs : List M.aE) (hx : (xs.length ≤ maxLen ∧ ∀ y ∈ xs, M.aE.ok y)) : Sz (uU xs) ((xs.length + aD M.aE.sz xs)) := by
  intro l a b
  unfold uU
  exact (Sz.aEL hx.1 (fun x h => M.aE.lQ x (hx.2 x h)) (fun _ _ _ => rfl)) l a b
theorem M.aCp.kY (xs : List M.aE) (hx : (xs.length ≤ maxLen ∧ ∀ y ∈ xs, M.aE.ok y)) (hs : (xs.length + aD M.aE.sz xs) ≤ 1048576) : uL xs = some xs := by
  have hm := le_max hx.1
  unfold uL
  rw [aAt (by omega) (by omega), Option.bind_some]
  refine aAO hx.1 (fun n k r hk hr => ?_) (fun n r => ?_) fuel 0 _ (by unfold fuel; omega) (by omega) (by simp) (by simp)
  · simp only [jW]
    rw [if_pos (bA hk), aN hk, Option.bind_some, M.aE.kY _ (hx.2 _ (List.getElem_mem hk)) (by have := cA (f := M.aE.sz) (List.getElem_mem hk); omega), Option.bind_some, aN (by omega), Option.bind_some, bD (by omega), Int.toNat_natCast]
  · simp only [jW]
    rw [if_neg (by rw [aO]; simp)]
theorem M.aCp.kJ (xs : List M.aE) (hx : (xs.length ≤ maxLen ∧ ∀ y ∈ xs, M.aE.ok y)) : uH xs xs = some true := by
  have hm := le_max hx.1
  unfold uH
  rw [if_neg (by simp)]
  refine aAR hx.1 (fun n k hk => ?_) (fun n => ?_) fuel 0 (by unfold fuel; omega) (by omega)
  · simp only [jU]
    rw [if_pos (bA hk), aN hk]
    simp [bD (show k < 9223372036854775807 by omega), M.aE.kJ _ (hx.2 _ (List.getElem_mem hk))]
  · simp only [jU]
    rw [if_neg (by rw [aO]; simp)]
structure M.aK.ok (x : M.aK) : Prop where
  Buckets : (x.Buckets.length ≤ maxLen ∧ ∀ y ∈ x.Buckets, M.aE.ok y)
def M.aK.sh : List Shp := [.sl M.aE.sh]
theorem M.aK.cT (d : List D) (h : mW M.aK.sh d) : ∃ x, d = M.aK.en x ∧ M.aK.ok x := by
  simp only [M.aK.sh, mW, Has] at h
  obtain ⟨_, _, rfl, ⟨_, rfl, w1, q1⟩, rfl⟩ := h
  obtain ⟨a1, rfl, e1⟩ := bE M.aE.cT q1
  exact ⟨⟨a1⟩, rfl, ⟨⟨by simpa using w1, e1⟩⟩⟩
def M.aK.sz (x : M.aK) : Nat := (x.Buckets.length + aD M.aE.sz x.Buckets)
theorem M.aK.lQ (x : M.aK) (hx : M.aK.ok x) : Sz (tU x) (M.aK.sz x) := by
  intro l a b
  unfold tU M.aK.sz
  exact (Sz.call (M.aCp.lQ _ hx.Buckets)) l a b
theorem M.aK.kY (x : M.aK) (hx : M.aK.ok x) (hs : M.aK.sz x ≤ 1048576) : uX x = some x := by
  unfold M.aK.sz at hs
  unfold uX
  rw [M.aCp.kY _ hx.Buckets (by omega), Option.bind_some]
theorem M.aK.kJ (x : M.aK) (hx : M.aK.ok x) : tY x x = some true := by
  simp [tY, M.aCp.kJ _ hx.Buckets]
structure M.aJ.ok (x : M.aJ) : Prop where
  Path : x.Path.size ≤ maxLen
  Version : inI x.Version
def M.aJ.sh : List Shp := [.str, .int .i64]
theorem M.aJ.cT (d : List D) (h : mW M.aJ.sh d) : ∃ x, d = M.aJ.en x ∧ M.aJ.ok x := by
  simp only [M.aJ.sh, mW, Has] at h
  obtain ⟨_, _, rfl, ⟨a1, rfl, w1⟩, _, _, rfl, ⟨a2, rfl, w2⟩, rfl⟩ := h
  exact ⟨⟨a1, a2⟩, rfl, ⟨w1, wf_i64 w2⟩⟩
def M.aJ.sz (x : M.aJ) : Nat := x.Path.size
theorem M.aJ.lQ (x : M.aJ) (hx : M.aJ.ok x) : Sz (xD x) (M.aJ.sz x) := by
  intro l a b
  unfold xD M.aJ.sz
  exact (Sz.str hx.Path) l a b
theorem M.aJ.kY (x : M.aJ) (hx : M.aJ.ok x) (hs : M.aJ.sz x ≤ 1048576) : xT x = some x := by
  unfold M.aJ.sz at hs
  unfold xT
  rfl
theorem M.aJ.kJ (x : M.aJ) (hx : M.aJ.ok x) : xK x x = some true := by
  simp [xK]
theorem M.aCo.lQ (xs : List M.aJ) (hx : (xs.length ≤ maxLen ∧ ∀ y ∈ xs, M.aJ.ok y)) : Sz (uJ xs) ((xs.length + aD M.aJ.sz xs)) := by
  intro l a b
  unfold uJ
  exact (Sz.aEL hx.1 (fun x h => M.aJ.lQ x (hx.2 x h)) (fun _ _ _ => rfl)) l a b
theorem M.aCo.kY (xs : List M.aJ) (hx : (xs.length ≤ maxLen ∧ ∀ y ∈ xs, M.aJ.ok y)) (hs : (xs.length + aD M.aJ.sz xs) ≤ 1048576) : uM xs = some xs := by
  have hm := le_max hx.1
  unfold uM
  rw [aAt (by omega) (by omega), Option.bind_some]
  refine aAO hx.1 (fun n k r hk hr => ?_) (fun n r => ?_) fuel 0 _ (by unfold fuel; omega) (by omega) (by simp) (by simp)
  · simp only [jP]
    rw [if_pos (bA hk), aN hk, Option.bind_some, M.aJ.kY _ (hx.2 _ (List.getElem_mem hk)) (by have := cA (f := M.aJ.sz) (List.getElem_mem hk); omega), Option.bind_some, aN (by omega), Option.bind_some, bD (by omega), Int.toNat_natCast]
  · simp only [jP]
    rw [if_neg (by rw [aO]; simp)]
theorem M.aCo.kJ (xs : List M.aJ) (hx : (xs.length ≤ maxLen ∧ ∀ y ∈ xs, M.aJ.ok y)) : tP xs xs = some true := by
  have hm := le_max hx.1
  unfold tP
  rw [if_neg (by simp)]
  refine aAR hx.1 (fun n k hk => ?_) (fun n => ?_) fuel 0 (by unfold fuel; omega) (by omega)
  · simp only [jS]
    rw [if_pos (bA hk), aN hk]
    simp [bD (show k < 9223372036854775807 by omega), M.aJ.kJ _ (hx.2 _ (List.getElem_mem hk))]
  · simp only [jS]
    rw [if_neg (by rw [aO]; simp)]
structure M.Instr.ok (x : M.Instr) : Prop where
  Kind : inI x.Kind
  R : inI x.R
  N : inI x.N
  Text : x.Text.size ≤ maxLen
def M.Instr.sh : List Shp := [.int .i64, .int .i64, .int .i64, .str]
theorem M.Instr.cT (d : List D) (h : mW M.Instr.sh d) : ∃ x, d = M.Instr.en x ∧ M.Instr.ok x := by
  simp only [M.Instr.sh, mW, Has] at h
  obtain ⟨_, _, rfl, ⟨a1, rfl, w1⟩, _, _, rfl, ⟨a2, rfl, w2⟩, _, _, rfl, ⟨a3, rfl, w3⟩, _, _, rfl, ⟨a4, rfl, w4⟩, rfl⟩ := h
  exact ⟨⟨a1, a2, a3, a4⟩, rfl, ⟨wf_i64 w1, wf_i64 w2, wf_i64 w3, w4⟩⟩
def M.Instr.sz (x : M.Instr) : Nat := x.Text.size
theorem M.Instr.lQ (x : M.Instr) (hx : M.Instr.ok x) : Sz (zM x) (M.Instr.sz x) := by
  intro l a b
  unfold zM M.Instr.sz
  exact (Sz.str hx.Text) l a b
theorem M.Instr.kY (x : M.Instr) (hx : M.Instr.ok x) (hs : M.Instr.sz x ≤ 1048576) : aAC x = some x := by
  unfold M.Instr.sz at hs
  unfold aAC
  rfl
theorem M.Instr.kJ (x : M.Instr) (hx : M.Instr.ok x) : yN x x = some true := by
  simp [yN]
theorem M.aE6.lQ (xs : List M.Instr) (hx : (xs.length ≤ maxLen ∧ ∀ y ∈ xs, M.Instr.ok y)) : Sz (wT xs) ((xs.length + aD M.Instr.sz xs)) := by
  intro l a b
  unfold wT
  exact (Sz.aEL hx.1 (fun x h => M.Instr.lQ x (hx.2 x h)) (fun _ _ _ => rfl)) l a b
theorem M.aE6.kY (xs : List M.Instr) (hx : (xs.length ≤ maxLen ∧ ∀ y ∈ xs, M.Instr.ok y)) (hs : (xs.length + aD M.Instr.sz xs) ≤ 1048576) : vZ xs = some xs := by
  have hm := le_max hx.1
  unfold vZ
  rw [aAt (by omega) (by omega), Option.bind_some]
  refine aAO hx.1 (fun n k r hk hr => ?_) (fun n r => ?_) fuel 0 _ (by unfold fuel; omega) (by omega) (by simp) (by simp)
  · simp only [kW]
    rw [if_pos (bA hk), aN hk, Option.bind_some, M.Instr.kY _ (hx.2 _ (List.getElem_mem hk)) (by have := cA (f := M.Instr.sz) (List.getElem_mem hk); omega), Option.bind_some, aN (by omega), Option.bind_some, bD (by omega), Int.toNat_natCast]
  · simp only [kW]
    rw [if_neg (by rw [aO]; simp)]
theorem M.aE6.kJ (xs : List M.Instr) (hx : (xs.length ≤ maxLen ∧ ∀ y ∈ xs, M.Instr.ok y)) : wE xs xs = some true := by
  have hm := le_max hx.1
  unfold wE
  rw [if_neg (by simp)]
  refine aAR hx.1 (fun n k hk => ?_) (fun n => ?_) fuel 0 (by unfold fuel; omega) (by omega)
  · simp only [kO]
    rw [if_pos (bA hk), aN hk]
    simp [bD (show k < 9223372036854775807 by omega), M.Instr.kJ _ (hx.2 _ (List.getElem_mem hk))]
  · simp only [kO]
    rw [if_neg (by rw [aO]; simp)]
theorem M.aKi.lQ (xs : List Int) (hx : okI xs) : Sz (aAd xs) (xs.length) := by
  intro l a b
  unfold aAd
  exact (Sz.str hx.1) l a b
theorem M.aKi.kY (xs : List Int) (hx : okI xs) (hs : xs.length ≤ 1048576) : aAn xs = some xs := by
  have hm := le_max hx.1
  unfold aAn
  rw [aAt (by omega) (by omega), Option.bind_some]
  refine aAO hx.1 (fun n k r hk hr => ?_) (fun n r => ?_) fuel 0 _ (by unfold fuel; omega) (by omega) (by simp) (by simp)
  · simp only [nH]
    rw [if_pos (bA hk), aN hk, Option.bind_some, aN (by omega), Option.bind_some, bD (by omega), Int.toNat_natCast]
  · simp only [nH]
    rw [if_neg (by rw [aO]; simp)]
theorem M.aKi.kJ (xs : List Int) (hx : okI xs) : aBF xs xs = some true := by
  have hm := le_max hx.1
  unfold aBF
  rw [if_neg (by simp)]
  refine aAR hx.1 (fun n k hk => ?_) (fun n => ?_) fuel 0 (by unfold fuel; omega) (by omega)
  · simp only [nM]
    rw [if_pos (bA hk), aN hk]
    simp [bD (show k < 9223372036854775807 by omega)]
  · simp only [nM]
    rw [if_neg (by rw [aO]; simp)]
structure M.Machine.ok (x : M.Machine) : Prop where
  Script : (x.Script.length ≤ maxLen ∧ ∀ y ∈ x.Script, M.Instr.ok y)
  Pc : inI x.Pc
  Regs : okI x.Regs
  Steps : inI x.Steps
def M.Machine.sh : List Shp := [.sl M.Instr.sh, .int .i64, .sl [.int .i64], .int .i64, .bool, .bool]
theorem M.Machine.cT (d : List D) (h : mW M.Machine.sh d) : ∃ x, d = M.Machine.en x ∧ M.Machine.ok x := by
  simp only [M.Machine.sh, mW, Has] at h
  obtain ⟨_, _, rfl, ⟨_, rfl, w1, q1⟩, _, _, rfl, ⟨a2, rfl, w2⟩, _, _, rfl, ⟨_, rfl, w3, q3⟩, _, _, rfl, ⟨a4, rfl, w4⟩, _, _, rfl, ⟨a5, rfl⟩, _, _, rfl, ⟨a6, rfl⟩, rfl⟩ := h
  obtain ⟨a1, rfl, e1⟩ := bE M.Instr.cT q1
  obtain ⟨a3, rfl, e3⟩ := bE aOf q3
  exact ⟨⟨a1, a2, a3, a4, a5, a6⟩, rfl, ⟨⟨by simpa using w1, e1⟩, wf_i64 w2, ⟨by simpa using w3, e3⟩, wf_i64 w4⟩⟩
def M.Machine.sz (x : M.Machine) : Nat := (x.Script.length + aD M.Instr.sz x.Script) + (x.Regs.length)
theorem M.Machine.lQ (x : M.Machine) (hx : M.Machine.ok x) : Sz (tS x) (M.Machine.sz x) := by
  intro l a b
  unfold tS M.Machine.sz
  exact (Sz.sO (M.aE6.lQ _ hx.Script) (Sz.call (M.aKi.lQ _ hx.Regs))) l a b
theorem M.Machine.kY (x : M.Machine) (hx : M.Machine.ok x) (hs : M.Machine.sz x ≤ 1048576) : tO x = some x := by
  unfold M.Machine.sz at hs
  unfold tO
  rw [M.aE6.kY _ hx.Script (by omega), Option.bind_some, M.aKi.kY _ hx.Regs (by omega), Option.bind_some]
theorem M.Machine.kJ (x : M.Machine) (hx : M.Machine.ok x) : tE x x = some true := by
  simp [tE, M.aE6.kJ _ hx.Script, M.aKi.kJ _ hx.Regs]
structure M.bG.ok (x : M.bG) : Prop where
  Id : inI x.Id
  Site : x.Site.size ≤ maxLen
  Top : x.Top.size ≤ maxLen
  Version : inI x.Version
  aJ : (x.aJ.length ≤ maxLen ∧ ∀ y ∈ x.aJ, M.aJ.ok y)
  Machine : M.Machine.ok x.Machine
def M.bG.sh : List Shp := [.int .i64, .str, .str, .int .i64, .sl M.aJ.sh, .sl M.Instr.sh, .int .i64, .sl [.int .i64], .int .i64, .bool, .bool]
theorem M.bG.cT (d : List D) (h : mW M.bG.sh d) : ∃ x, d = M.bG.en x ∧ M.bG.ok x := by
  simp only [M.bG.sh, mW, Has] at h
  obtain ⟨_, _, rfl, ⟨a1, rfl, w1⟩, _, _, rfl, ⟨a2, rfl, w2⟩, _, _, rfl, ⟨a3, rfl, w3⟩, _, _, rfl, ⟨a4, rfl, w4⟩, _, _, rfl, ⟨_, rfl, w5, q5⟩, _, _, rfl, ⟨_, rfl, w6, q6⟩, _, _, rfl, ⟨a7, rfl, w7⟩, _, _, rfl, ⟨_, rfl, w8, q8⟩, _, _, rfl, ⟨a9, rfl, w9⟩, _, _, rfl, ⟨a10, rfl⟩, _, _, rfl, ⟨a11, rfl⟩, rfl⟩ := h
  obtain ⟨a5, rfl, e5⟩ := bE M.aJ.cT q5
  obtain ⟨a6, rfl, e6⟩ := bE M.Instr.cT q6
  obtain ⟨a8, rfl, e8⟩ := bE aOf q8
  exact ⟨⟨a1, a2, a3, a4, a5, ⟨a6, a7, a8, a9, a10, a11⟩⟩, rfl, ⟨wf_i64 w1, w2, w3, wf_i64 w4, ⟨by simpa using w5, e5⟩, ⟨⟨by simpa using w6, e6⟩, wf_i64 w7, ⟨by simpa using w8, e8⟩, wf_i64 w9⟩⟩⟩
def M.bG.sz (x : M.bG) : Nat := x.Site.size + (x.Top.size + ((x.aJ.length + aD M.aJ.sz x.aJ) + (M.Machine.sz x.Machine)))
theorem M.bG.lQ (x : M.bG) (hx : M.bG.ok x) : Sz (aA5 x) (M.bG.sz x) := by
  intro l a b
  unfold aA5 M.bG.sz
  exact (Sz.aCH hx.Site (Sz.aCH hx.Top (Sz.sO (M.aCo.lQ _ hx.aJ) (Sz.call (M.Machine.lQ _ hx.Machine))))) l a b
theorem M.bG.kY (x : M.bG) (hx : M.bG.ok x) (hs : M.bG.sz x ≤ 1048576) : aAp x = some x := by
  unfold M.bG.sz at hs
  unfold aAp
  rw [M.aCo.kY _ hx.aJ (by omega), Option.bind_some, M.Machine.kY _ hx.Machine (by omega), Option.bind_some]
theorem M.bG.kJ (x : M.bG) (hx : M.bG.ok x) : aAh x x = some true := by
  simp [aAh, M.aCo.kJ _ hx.aJ, M.Machine.kJ _ hx.Machine]
theorem M.aIf.lQ (xs : List M.bG) (hx : (xs.length ≤ maxLen ∧ ∀ y ∈ xs, M.bG.ok y)) : Sz (zH xs) ((xs.length + aD M.bG.sz xs)) := by
  intro l a b
  unfold zH
  exact (Sz.aEL hx.1 (fun x h => M.bG.lQ x (hx.2 x h)) (fun _ _ _ => rfl)) l a b
theorem M.aIf.kY (xs : List M.bG) (hx : (xs.length ≤ maxLen ∧ ∀ y ∈ xs, M.bG.ok y)) (hs : (xs.length + aD M.bG.sz xs) ≤ 1048576) : zR xs = some xs := by
  have hm := le_max hx.1
  unfold zR
  rw [aAt (by omega) (by omega), Option.bind_some]
  refine aAO hx.1 (fun n k r hk hr => ?_) (fun n r => ?_) fuel 0 _ (by unfold fuel; omega) (by omega) (by simp) (by simp)
  · simp only [lX]
    rw [if_pos (bA hk), aN hk, Option.bind_some, M.bG.kY _ (hx.2 _ (List.getElem_mem hk)) (by have := cA (f := M.bG.sz) (List.getElem_mem hk); omega), Option.bind_some, aN (by omega), Option.bind_some, bD (by omega), Int.toNat_natCast]
  · simp only [lX]
    rw [if_neg (by rw [aO]; simp)]
theorem M.aIf.kJ (xs : List M.bG) (hx : (xs.length ≤ maxLen ∧ ∀ y ∈ xs, M.bG.ok y)) : zU xs xs = some true := by
  have hm := le_max hx.1
  unfold zU
  rw [if_neg (by simp)]
  refine aAR hx.1 (fun n k hk => ?_) (fun n => ?_) fuel 0 (by unfold fuel; omega) (by omega)
  · simp only [lV]
    rw [if_pos (bA hk), aN hk]
    simp [bD (show k < 9223372036854775807 by omega), M.bG.kJ _ (hx.2 _ (List.getElem_mem hk))]
  · simp only [lV]
    rw [if_neg (by rw [aO]; simp)]
structure M.cF.ok (x : M.cF) : Prop where
  Name : x.Name.size ≤ maxLen
  bG : inI x.bG
def M.cF.sh : List Shp := [.str, .int .i64, .bool, .bool]
theorem M.cF.cT (d : List D) (h : mW M.cF.sh d) : ∃ x, d = M.cF.en x ∧ M.cF.ok x := by
  simp only [M.cF.sh, mW, Has] at h
  obtain ⟨_, _, rfl, ⟨a1, rfl, w1⟩, _, _, rfl, ⟨a2, rfl, w2⟩, _, _, rfl, ⟨a3, rfl⟩, _, _, rfl, ⟨a4, rfl⟩, rfl⟩ := h
  exact ⟨⟨a1, a2, a3, a4⟩, rfl, ⟨w1, wf_i64 w2⟩⟩
def M.cF.sz (x : M.cF) : Nat := x.Name.size
theorem M.cF.lQ (x : M.cF) (hx : M.cF.ok x) : Sz (aBI x) (M.cF.sz x) := by
  intro l a b
  unfold aBI M.cF.sz
  exact (Sz.str hx.Name) l a b
theorem M.cF.kY (x : M.cF) (hx : M.cF.ok x) (hs : M.cF.sz x ≤ 1048576) : aAV x = some x := by
  unfold M.cF.sz at hs
  unfold aAV
  rfl
theorem M.cF.kJ (x : M.cF) (hx : M.cF.ok x) : aAg x x = some true := by
  simp [aAg]
theorem M.aIz.lQ (xs : List M.cF) (hx : (xs.length ≤ maxLen ∧ ∀ y ∈ xs, M.cF.ok y)) : Sz (yL xs) ((xs.length + aD M.cF.sz xs)) := by
  intro l a b
  unfold yL
  exact (Sz.aEL hx.1 (fun x h => M.cF.lQ x (hx.2 x h)) (fun _ _ _ => rfl)) l a b
theorem M.aIz.kY (xs : List M.cF) (hx : (xs.length ≤ maxLen ∧ ∀ y ∈ xs, M.cF.ok y)) (hs : (xs.length + aD M.cF.sz xs) ≤ 1048576) : yW xs = some xs := by
  have hm := le_max hx.1
  unfold yW
  rw [aAt (by omega) (by omega), Option.bind_some]
  refine aAO hx.1 (fun n k r hk hr => ?_) (fun n r => ?_) fuel 0 _ (by unfold fuel; omega) (by omega) (by simp) (by simp)
  · simp only [lW]
    rw [if_pos (bA hk), aN hk, Option.bind_some, M.cF.kY _ (hx.2 _ (List.getElem_mem hk)) (by have := cA (f := M.cF.sz) (List.getElem_mem hk); omega), Option.bind_some, aN (by omega), Option.bind_some, bD (by omega), Int.toNat_natCast]
  · simp only [lW]
    rw [if_neg (by rw [aO]; simp)]
theorem M.aIz.kJ (xs : List M.cF) (hx : (xs.length ≤ maxLen ∧ ∀ y ∈ xs, M.cF.ok y)) : zV xs xs = some true := by
  have hm := le_max hx.1
  unfold zV
  rw [if_neg (by simp)]
  refine aAR hx.1 (fun n k hk => ?_) (fun n => ?_) fuel 0 (by unfold fuel; omega) (by omega)
  · simp only [lZ]
    rw [if_pos (bA hk), aN hk]
    simp [bD (show k < 9223372036854775807 by omega), M.cF.kJ _ (hx.2 _ (List.getElem_mem hk))]
  · simp only [lZ]
    rw [if_neg (by rw [aO]; simp)]
structure M.aR.ok (x : M.aR) : Prop where
  Locks : (x.Locks.length ≤ maxLen ∧ ∀ y ∈ x.Locks, M.cF.ok y)
def M.aR.sh : List Shp := [.sl M.cF.sh]
theorem M.aR.cT (d : List D) (h : mW M.aR.sh d) : ∃ x, d = M.aR.en x ∧ M.aR.ok x := by
  simp only [M.aR.sh, mW, Has] at h
  obtain ⟨_, _, rfl, ⟨_, rfl, w1, q1⟩, rfl⟩ := h
  obtain ⟨a1, rfl, e1⟩ := bE M.cF.cT q1
  exact ⟨⟨a1⟩, rfl, ⟨⟨by simpa using w1, e1⟩⟩⟩
def M.aR.sz (x : M.aR) : Nat := (x.Locks.length + aD M.cF.sz x.Locks)
theorem M.aR.lQ (x : M.aR) (hx : M.aR.ok x) : Sz (oV x) (M.aR.sz x) := by
  intro l a b
  unfold oV M.aR.sz
  exact (Sz.call (M.aIz.lQ _ hx.Locks)) l a b
theorem M.aR.kY (x : M.aR) (hx : M.aR.ok x) (hs : M.aR.sz x ≤ 1048576) : oO x = some x := by
  unfold M.aR.sz at hs
  unfold oO
  rw [M.aIz.kY _ hx.Locks (by omega), Option.bind_some]
theorem M.aR.kJ (x : M.aR) (hx : M.aR.ok x) : oG x x = some true := by
  simp [oG, M.aIz.kJ _ hx.Locks]
structure M.fH.ok (x : M.fH) : Prop where
  To : inI x.To
  From : inI x.From
  N : inI x.N
def M.fH.sh : List Shp := [.int .i64, .int .i64, .int .i64]
theorem M.fH.cT (d : List D) (h : mW M.fH.sh d) : ∃ x, d = M.fH.en x ∧ M.fH.ok x := by
  simp only [M.fH.sh, mW, Has] at h
  obtain ⟨_, _, rfl, ⟨a1, rfl, w1⟩, _, _, rfl, ⟨a2, rfl, w2⟩, _, _, rfl, ⟨a3, rfl, w3⟩, rfl⟩ := h
  exact ⟨⟨a1, a2, a3⟩, rfl, ⟨wf_i64 w1, wf_i64 w2, wf_i64 w3⟩⟩
theorem M.fH.kY (x : M.fH) (hx : M.fH.ok x) : aAf x = some x := by
  unfold aAf
  rfl
theorem M.fH.kJ (x : M.fH) (hx : M.fH.ok x) : aA0 x x = some true := by
  simp [aA0]
theorem M.aIs.lQ (xs : List M.fH) (hx : (xs.length ≤ maxLen ∧ ∀ y ∈ xs, M.fH.ok y)) : Sz (aAG xs) (xs.length) := by
  intro l a b
  unfold aAG
  exact (Sz.str hx.1) l a b
theorem M.aIs.kY (xs : List M.fH) (hx : (xs.length ≤ maxLen ∧ ∀ y ∈ xs, M.fH.ok y)) (hs : xs.length ≤ 1048576) : aAA xs = some xs := by
  have hm := le_max hx.1
  unfold aAA
  rw [aAt (by omega) (by omega), Option.bind_some]
  refine aAO hx.1 (fun n k r hk hr => ?_) (fun n r => ?_) fuel 0 _ (by unfold fuel; omega) (by omega) (by simp) (by simp)
  · simp only [mI]
    rw [if_pos (bA hk), aN hk, Option.bind_some, M.fH.kY _ (hx.2 _ (List.getElem_mem hk)), Option.bind_some, aN (by omega), Option.bind_some, bD (by omega), Int.toNat_natCast]
  · simp only [mI]
    rw [if_neg (by rw [aO]; simp)]
theorem M.aIs.kJ (xs : List M.fH) (hx : (xs.length ≤ maxLen ∧ ∀ y ∈ xs, M.fH.ok y)) : zE xs xs = some true := by
  have hm := le_max hx.1
  unfold zE
  rw [if_neg (by simp)]
  refine aAR hx.1 (fun n k hk => ?_) (fun n => ?_) fuel 0 (by unfold fuel; omega) (by omega)
  · simp only [mE]
    rw [if_pos (bA hk), aN hk]
    simp [bD (show k < 9223372036854775807 by omega), M.fH.kJ _ (hx.2 _ (List.getElem_mem hk))]
  · simp only [mE]
    rw [if_neg (by rw [aO]; simp)]
structure M.Channel.ok (x : M.Channel) : Prop where
  Mails : (x.Mails.length ≤ maxLen ∧ ∀ y ∈ x.Mails, M.fH.ok y)
def M.Channel.sh : List Shp := [.sl M.fH.sh]
theorem M.Channel.cT (d : List D) (h : mW M.Channel.sh d) : ∃ x, d = M.Channel.en x ∧ M.Channel.ok x := by
  simp only [M.Channel.sh, mW, Has] at h
  obtain ⟨_, _, rfl, ⟨_, rfl, w1, q1⟩, rfl⟩ := h
  obtain ⟨a1, rfl, e1⟩ := bE M.fH.cT q1
  exact ⟨⟨a1⟩, rfl, ⟨⟨by simpa using w1, e1⟩⟩⟩
def M.Channel.sz (x : M.Channel) : Nat := x.Mails.length
theorem M.Channel.lQ (x : M.Channel) (hx : M.Channel.ok x) : Sz (uF x) (M.Channel.sz x) := by
  intro l a b
  unfold uF M.Channel.sz
  exact (Sz.call (M.aIs.lQ _ hx.Mails)) l a b
theorem M.Channel.kY (x : M.Channel) (hx : M.Channel.ok x) (hs : M.Channel.sz x ≤ 1048576) : uI x = some x := by
  unfold M.Channel.sz at hs
  unfold uI
  rw [M.aIs.kY _ hx.Mails (by omega), Option.bind_some]
theorem M.Channel.kJ (x : M.Channel) (hx : M.Channel.ok x) : tJ x x = some true := by
  simp [tJ, M.aIs.kJ _ hx.Mails]
theorem M.aBE.lQ (xs : List ByteArray) (hx : okS xs) : Sz (tZ xs) ((xs.length + aD ByteArray.size xs)) := by
  intro l a b
  unfold tZ
  exact (Sz.strs hx (fun _ _ _ => rfl)) l a b
theorem M.aBE.kY (xs : List ByteArray) (hx : okS xs) (hs : (xs.length + aD ByteArray.size xs) ≤ 1048576) : uT xs = some xs := by
  have hm := le_max hx.1
  unfold uT
  rw [aAt (by omega) (by omega), Option.bind_some]
  refine aAO hx.1 (fun n k r hk hr => ?_) (fun n r => ?_) fuel 0 _ (by unfold fuel; omega) (by omega) (by simp) (by simp)
  · simp only [jT]
    rw [if_pos (bA hk), aN hk, Option.bind_some, aN (by omega), Option.bind_some, bD (by omega), Int.toNat_natCast]
  · simp only [jT]
    rw [if_neg (by rw [aO]; simp)]
theorem M.aBE.kJ (xs : List ByteArray) (hx : okS xs) : tR xs xs = some true := by
  have hm := le_max hx.1
  unfold tR
  rw [if_neg (by simp)]
  refine aAR hx.1 (fun n k hk => ?_) (fun n => ?_) fuel 0 (by unfold fuel; omega) (by omega)
  · simp only [jJ]
    rw [if_pos (bA hk), aN hk]
    simp [bD (show k < 9223372036854775807 by omega)]
  · simp only [jJ]
    rw [if_neg (by rw [aO]; simp)]
structure M.Site.ok (x : M.Site) : Prop where
  Name : x.Name.size ≤ maxLen
  Version : inI x.Version
  Files : okS x.Files
def M.Site.sh : List Shp := [.str, .int .i64, .sl [.str], .bool]
theorem M.Site.cT (d : List D) (h : mW M.Site.sh d) : ∃ x, d = M.Site.en x ∧ M.Site.ok x := by
  simp only [M.Site.sh, mW, Has] at h
  obtain ⟨_, _, rfl, ⟨a1, rfl, w1⟩, _, _, rfl, ⟨a2, rfl, w2⟩, _, _, rfl, ⟨_, rfl, w3, q3⟩, _, _, rfl, ⟨a4, rfl⟩, rfl⟩ := h
  obtain ⟨a3, rfl, e3⟩ := bE aPj q3
  exact ⟨⟨a1, a2, a3, a4⟩, rfl, ⟨w1, wf_i64 w2, ⟨by simpa using w3, e3⟩⟩⟩
def M.Site.sz (x : M.Site) : Nat := x.Name.size + ((x.Files.length + aD ByteArray.size x.Files))
theorem M.Site.lQ (x : M.Site) (hx : M.Site.ok x) : Sz (aA3 x) (M.Site.sz x) := by
  intro l a b
  unfold aA3 M.Site.sz
  exact (Sz.aCH hx.Name (Sz.call (M.aBE.lQ _ hx.Files))) l a b
theorem M.Site.kY (x : M.Site) (hx : M.Site.ok x) (hs : M.Site.sz x ≤ 1048576) : aAv x = some x := by
  unfold M.Site.sz at hs
  unfold aAv
  rw [M.aBE.kY _ hx.Files (by omega), Option.bind_some]
theorem M.Site.kJ (x : M.Site) (hx : M.Site.ok x) : aAZ x x = some true := by
  simp [aAZ, M.aBE.kJ _ hx.Files]
theorem M.aIj.lQ (xs : List M.Site) (hx : (xs.length ≤ maxLen ∧ ∀ y ∈ xs, M.Site.ok y)) : Sz (yY xs) ((xs.length + aD M.Site.sz xs)) := by
  intro l a b
  unfold yY
  exact (Sz.aEL hx.1 (fun x h => M.Site.lQ x (hx.2 x h)) (fun _ _ _ => rfl)) l a b
theorem M.aIj.kY (xs : List M.Site) (hx : (xs.length ≤ maxLen ∧ ∀ y ∈ xs, M.Site.ok y)) (hs : (xs.length + aD M.Site.sz xs) ≤ 1048576) : yV xs = some xs := by
  have hm := le_max hx.1
  unfold yV
  rw [aAt (by omega) (by omega), Option.bind_some]
  refine aAO hx.1 (fun n k r hk hr => ?_) (fun n r => ?_) fuel 0 _ (by unfold fuel; omega) (by omega) (by simp) (by simp)
  · simp only [mH]
    rw [if_pos (bA hk), aN hk, Option.bind_some, M.Site.kY _ (hx.2 _ (List.getElem_mem hk)) (by have := cA (f := M.Site.sz) (List.getElem_mem hk); omega), Option.bind_some, aN (by omega), Option.bind_some, bD (by omega), Int.toNat_natCast]
  · simp only [mH]
    rw [if_neg (by rw [aO]; simp)]
theorem M.aIj.kJ (xs : List M.Site) (hx : (xs.length ≤ maxLen ∧ ∀ y ∈ xs, M.Site.ok y)) : zT xs xs = some true := by
  have hm := le_max hx.1
  unfold zT
  rw [if_neg (by simp)]
  refine aAR hx.1 (fun n k hk => ?_) (fun n => ?_) fuel 0 (by unfold fuel; omega) (by omega)
  · simp only [lY]
    rw [if_pos (bA hk), aN hk]
    simp [bD (show k < 9223372036854775807 by omega), M.Site.kJ _ (hx.2 _ (List.getElem_mem hk))]
  · simp only [lY]
    rw [if_neg (by rw [aO]; simp)]
structure M.aH.ok (x : M.aH) : Prop where
  Device : inI x.Device
  Seq : inI x.Seq
def M.aH.sh : List Shp := [.int .i64, .int .i64]
theorem M.aH.cT (d : List D) (h : mW M.aH.sh d) : ∃ x, d = M.aH.en x ∧ M.aH.ok x := by
  simp only [M.aH.sh, mW, Has] at h
  obtain ⟨_, _, rfl, ⟨a1, rfl, w1⟩, _, _, rfl, ⟨a2, rfl, w2⟩, rfl⟩ := h
  exact ⟨⟨a1, a2⟩, rfl, ⟨wf_i64 w1, wf_i64 w2⟩⟩
theorem M.aH.kY (x : M.aH) (hx : M.aH.ok x) : sZ x = some x := by
  unfold sZ
  rfl
theorem M.aH.kJ (x : M.aH) (hx : M.aH.ok x) : uB x x = some true := by
  simp [uB]
theorem M.aBl.lQ (xs : List M.aH) (hx : (xs.length ≤ maxLen ∧ ∀ y ∈ xs, M.aH.ok y)) : Sz (qJ xs) (xs.length) := by
  intro l a b
  unfold qJ
  exact (Sz.str hx.1) l a b
theorem M.aBl.kY (xs : List M.aH) (hx : (xs.length ≤ maxLen ∧ ∀ y ∈ xs, M.aH.ok y)) (hs : xs.length ≤ 1048576) : rA xs = some xs := by
  have hm := le_max hx.1
  unfold rA
  rw [aAt (by omega) (by omega), Option.bind_some]
  refine aAO hx.1 (fun n k r hk hr => ?_) (fun n r => ?_) fuel 0 _ (by unfold fuel; omega) (by omega) (by simp) (by simp)
  · simp only [jC]
    rw [if_pos (bA hk), aN hk, Option.bind_some, M.aH.kY _ (hx.2 _ (List.getElem_mem hk)), Option.bind_some, aN (by omega), Option.bind_some, bD (by omega), Int.toNat_natCast]
  · simp only [jC]
    rw [if_neg (by rw [aO]; simp)]
theorem M.aBl.kJ (xs : List M.aH) (hx : (xs.length ≤ maxLen ∧ ∀ y ∈ xs, M.aH.ok y)) : rG xs xs = some true := by
  have hm := le_max hx.1
  unfold rG
  rw [if_neg (by simp)]
  refine aAR hx.1 (fun n k hk => ?_) (fun n => ?_) fuel 0 (by unfold fuel; omega) (by omega)
  · simp only [iZ]
    rw [if_pos (bA hk), aN hk]
    simp [bD (show k < 9223372036854775807 by omega), M.aH.kJ _ (hx.2 _ (List.getElem_mem hk))]
  · simp only [iZ]
    rw [if_neg (by rw [aO]; simp)]
structure M.Server.ok (x : M.Server) : Prop where
  aG : M.aG.ok x.aG
  aH : (x.aH.length ≤ maxLen ∧ ∀ y ∈ x.aH, M.aH.ok y)
  Changes : (x.Changes.length ≤ maxLen ∧ ∀ y ∈ x.Changes, M.aW.ok y)
def M.Server.sh : List Shp := [.str, .sl M.Item.sh, .int .i64, .sl M.aH.sh, .sl M.aW.sh]
theorem M.Server.cT (d : List D) (h : mW M.Server.sh d) : ∃ x, d = M.Server.en x ∧ M.Server.ok x := by
  simp only [M.Server.sh, mW, Has] at h
  obtain ⟨_, _, rfl, ⟨a1, rfl, w1⟩, _, _, rfl, ⟨_, rfl, w2, q2⟩, _, _, rfl, ⟨a3, rfl, w3⟩, _, _, rfl, ⟨_, rfl, w4, q4⟩, _, _, rfl, ⟨_, rfl, w5, q5⟩, rfl⟩ := h
  obtain ⟨a2, rfl, e2⟩ := bE M.Item.cT q2
  obtain ⟨a4, rfl, e4⟩ := bE M.aH.cT q4
  obtain ⟨a5, rfl, e5⟩ := bE M.aW.cT q5
  exact ⟨⟨⟨a1, a2, a3⟩, a4, a5⟩, rfl, ⟨⟨w1, ⟨by simpa using w2, e2⟩, wf_i64 w3⟩, ⟨by simpa using w4, e4⟩, ⟨by simpa using w5, e5⟩⟩⟩
def M.Server.sz (x : M.Server) : Nat := M.aG.sz x.aG + (x.aH.length + ((x.Changes.length + aD M.aW.sz x.Changes)))
theorem M.Server.lQ (x : M.Server) (hx : M.Server.ok x) : Sz (wS x) (M.Server.sz x) := by
  intro l a b
  unfold wS M.Server.sz
  exact (Sz.sO (M.aG.lQ _ hx.aG) (Sz.sO (M.aBl.lQ _ hx.aH) (Sz.call (M.aCI.lQ _ hx.Changes)))) l a b
theorem M.Server.kY (x : M.Server) (hx : M.Server.ok x) (hs : M.Server.sz x ≤ 1048576) : xL x = some x := by
  unfold M.Server.sz at hs
  unfold xL
  rw [M.aG.kY _ hx.aG (by omega), Option.bind_some, M.aBl.kY _ hx.aH (by omega), Option.bind_some, M.aCI.kY _ hx.Changes (by omega), Option.bind_some]
theorem M.Server.kJ (x : M.Server) (hx : M.Server.ok x) : wH x x = some true := by
  simp [wH, M.aG.kJ _ hx.aG, M.aBl.kJ _ hx.aH, M.aCI.kJ _ hx.Changes]
theorem M.aCl.lQ (xs : List M.Server) (hx : (xs.length ≤ maxLen ∧ ∀ y ∈ xs, M.Server.ok y)) : Sz (uE xs) ((xs.length + aD M.Server.sz xs)) := by
  intro l a b
  unfold uE
  exact (Sz.aEL hx.1 (fun x h => M.Server.lQ x (hx.2 x h)) (fun _ _ _ => rfl)) l a b
theorem M.aCl.kY (xs : List M.Server) (hx : (xs.length ≤ maxLen ∧ ∀ y ∈ xs, M.Server.ok y)) (hs : (xs.length + aD M.Server.sz xs) ≤ 1048576) : tB xs = some xs := by
  have hm := le_max hx.1
  unfold tB
  rw [aAt (by omega) (by omega), Option.bind_some]
  refine aAO hx.1 (fun n k r hk hr => ?_) (fun n r => ?_) fuel 0 _ (by unfold fuel; omega) (by omega) (by simp) (by simp)
  · simp only [jM]
    rw [if_pos (bA hk), aN hk, Option.bind_some, M.Server.kY _ (hx.2 _ (List.getElem_mem hk)) (by have := cA (f := M.Server.sz) (List.getElem_mem hk); omega), Option.bind_some, aN (by omega), Option.bind_some, bD (by omega), Int.toNat_natCast]
  · simp only [jM]
    rw [if_neg (by rw [aO]; simp)]
theorem M.aCl.kJ (xs : List M.Server) (hx : (xs.length ≤ maxLen ∧ ∀ y ∈ xs, M.Server.ok y)) : uC xs xs = some true := by
  have hm := le_max hx.1
  unfold uC
  rw [if_neg (by simp)]
  refine aAR hx.1 (fun n k hk => ?_) (fun n => ?_) fuel 0 (by unfold fuel; omega) (by omega)
  · simp only [jR]
    rw [if_pos (bA hk), aN hk]
    simp [bD (show k < 9223372036854775807 by omega), M.Server.kJ _ (hx.2 _ (List.getElem_mem hk))]
  · simp only [jR]
    rw [if_neg (by rw [aO]; simp)]
structure M.World.ok (x : M.World) : Prop where
  Now : inI x.Now
  Device : inI x.Device
  aK : M.aK.ok x.aK
  Pages : (x.Pages.length ≤ maxLen ∧ ∀ y ∈ x.Pages, M.bG.ok y)
  NextPage : inI x.NextPage
  Locks : M.aR.ok x.Locks
  Channel : M.Channel.ok x.Channel
  Sites : (x.Sites.length ≤ maxLen ∧ ∀ y ∈ x.Sites, M.Site.ok y)
  Servers : (x.Servers.length ≤ maxLen ∧ ∀ y ∈ x.Servers, M.Server.ok y)
def M.World.sh : List Shp := [.int .i64, .bool, .int .i64, .sl M.aE.sh, .sl M.bG.sh, .int .i64, .sl M.cF.sh, .sl M.fH.sh, .sl M.Site.sh, .sl M.Server.sh]
theorem M.World.cT (d : List D) (h : mW M.World.sh d) : ∃ x, d = M.World.en x ∧ M.World.ok x := by
  simp only [M.World.sh, mW, Has] at h
  obtain ⟨_, _, rfl, ⟨a1, rfl, w1⟩, _, _, rfl, ⟨a2, rfl⟩, _, _, rfl, ⟨a3, rfl, w3⟩, _, _, rfl, ⟨_, rfl, w4, q4⟩, _, _, rfl, ⟨_, rfl, w5, q5⟩, _, _, rfl, ⟨a6, rfl, w6⟩, _, _, rfl, ⟨_, rfl, w7, q7⟩, _, _, rfl, ⟨_, rfl, w8, q8⟩, _, _, rfl, ⟨_, rfl, w9, q9⟩, _, _, rfl, ⟨_, rfl, w10, q10⟩, rfl⟩ := h
  obtain ⟨a4, rfl, e4⟩ := bE M.aE.cT q4
  obtain ⟨a5, rfl, e5⟩ := bE M.bG.cT q5
  obtain ⟨a7, rfl, e7⟩ := bE M.cF.cT q7
  obtain ⟨a8, rfl, e8⟩ := bE M.fH.cT q8
  obtain ⟨a9, rfl, e9⟩ := bE M.Site.cT q9
  obtain ⟨a10, rfl, e10⟩ := bE M.Server.cT q10
  exact ⟨⟨a1, a2, a3, ⟨a4⟩, a5, a6, ⟨a7⟩, ⟨a8⟩, a9, a10⟩, rfl, ⟨wf_i64 w1, wf_i64 w3, ⟨⟨by simpa using w4, e4⟩⟩, ⟨by simpa using w5, e5⟩, wf_i64 w6, ⟨⟨by simpa using w7, e7⟩⟩, ⟨⟨by simpa using w8, e8⟩⟩, ⟨by simpa using w9, e9⟩, ⟨by simpa using w10, e10⟩⟩⟩
def M.World.sz (x : M.World) : Nat := M.aK.sz x.aK + ((x.Pages.length + aD M.bG.sz x.Pages) + (M.aR.sz x.Locks + (M.Channel.sz x.Channel + ((x.Sites.length + aD M.Site.sz x.Sites) + ((x.Servers.length + aD M.Server.sz x.Servers))))))
theorem M.World.lQ (x : M.World) (hx : M.World.ok x) : Sz (zS x) (M.World.sz x) := by
  intro l a b
  unfold zS M.World.sz
  exact (Sz.sO (M.aK.lQ _ hx.aK) (Sz.sO (M.aIf.lQ _ hx.Pages) (Sz.sO (M.aR.lQ _ hx.Locks) (Sz.sO (M.Channel.lQ _ hx.Channel) (Sz.sO (M.aIj.lQ _ hx.Sites) (Sz.call (M.aCl.lQ _ hx.Servers))))))) l a b
theorem M.World.kY (x : M.World) (hx : M.World.ok x) (hs : M.World.sz x ≤ 1048576) : lS x = some x := by
  unfold M.World.sz at hs
  unfold lS
  rw [M.aK.kY _ hx.aK (by omega), Option.bind_some, M.aIf.kY _ hx.Pages (by omega), Option.bind_some, M.aR.kY _ hx.Locks (by omega), Option.bind_some, M.Channel.kY _ hx.Channel (by omega), Option.bind_some, M.aIj.kY _ hx.Sites (by omega), Option.bind_some, M.aCl.kY _ hx.Servers (by omega), Option.bind_some]
theorem M.World.kJ (x : M.World) (hx : M.World.ok x) : lU x x = some true := by
  simp [lU, M.aK.kJ _ hx.aK, M.aIf.kJ _ hx.Pages, M.aR.kJ _ hx.Locks, M.Channel.kJ _ hx.Channel, M.aIj.kJ _ hx.Sites, M.aCl.kJ _ hx.Servers]
end Go.Proofs.YtecmnmaaopkdfaaGreat.gen
