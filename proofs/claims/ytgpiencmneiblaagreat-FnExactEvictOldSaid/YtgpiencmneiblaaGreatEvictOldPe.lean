/-
  Helper text: plain laws of the functions. No conditions beyond those of each law.
-/
import Derived.Test.YtgpiencmneiblaaGreatEvictOldPc
namespace Go.Proofs.YtgpiencmneiblaaGreat.gen
open Go Go.Sh
set_option linter.unusedVariables false
set_option linter.unusedSimpArgs false
def nName (b : M.Bucket) : ByteArray := (b.Site ++ (⟨#[47]⟩ : ByteArray)) ++ b.Top
def nEv (l : List M.Page) (n : Int) (s : List ByteArray × List M.Bucket) (b : M.Bucket) : List ByteArray × List M.Bucket := if nEvictable b l n = true then (s.1 ++ [nName b], s.2) else (s.1, s.2 ++ [b])
def EvI (N : Nat) (k : Nat) (s : List ByteArray × List M.Bucket) : Prop := s.1.length + s.2.length = k ∧ (∀ x ∈ s.1, x.size ≤ N) ∧ (∀ b ∈ s.2, M.Bucket.ok b) ∧ szSum M.Bucket.cnt s.2 ≤ N * 80
theorem szSum_snoc {α : Type} {f : α → Nat} (xs : List α) (x : α) : szSum f (xs ++ [x]) = szSum f xs + f x := by
  induction xs with
  | nil => simp [szSum]
  | cons y ys ih => simp only [List.cons_append, szSum, ih]; omega
theorem fold_spec {s : M.Storage} {l : List M.Page} {n : Int} (hs : s.ok) (hl : l.length ≤ maxLen) (hz : M.Storage.sz s ≤ 1048576) :
    m_spec_EvictOld s l n = some ((⟨(s.Buckets.foldl (nEv l n) ([], [])).2⟩ : M.Storage), (s.Buckets.foldl (nEv l n) ([], [])).1) := by
  simp only [M.Storage.sz] at hz
  have key := invAll (L := fun m k (q : List ByteArray × List M.Bucket) => m_spec_EvictOld_L1 s l n m k q.1 q.2) (xs := s.Buckets) (step := nEv l n) (I := fun k q => q.1.length + q.2.length = k) (E := fun q => some ((⟨q.2⟩ : M.Storage), q.1)) hs.Buckets.1
    (fun q k hk hi => by
      unfold nEv
      split <;> simp only [List.length_append, List.length_cons, List.length_nil] <;> omega) (fun m q k hk hi => ?_) (fun m q hi => ?_) ([], []) rfl
  · unfold m_spec_EvictOld
    exact key.1
  · have hz1 := szSum_le (f := M.Bucket.sz) (List.getElem_mem hk)
    have hz2 : s.Buckets[k].Site.size + s.Buckets[k].Top.size ≤ M.Bucket.sz s.Buckets[k] := by simp only [M.Bucket.sz]; omega
    have hc1 : cat s.Buckets[k].Site (⟨#[47]⟩ : ByteArray) = some (s.Buckets[k].Site ++ (⟨#[47]⟩ : ByteArray)) := by
      unfold cat; rw [if_pos (by show s.Buckets[k].Site.size + 1 ≤ _; omega)]
    have hc2 : cat (s.Buckets[k].Site ++ (⟨#[47]⟩ : ByteArray)) s.Buckets[k].Top = some (nName s.Buckets[k]) := by
      unfold cat nName; rw [if_pos (by rw [ByteArray.size_append]; show s.Buckets[k].Site.size + 1 + _ ≤ _; omega)]
    simp only [m_spec_EvictOld_L1]
    rw [if_pos (lt_nat hk), idx_nat hk, Option.bind_some, p_spec_IsEvictable hl, Option.bind_some, wrapn (by omega), hc1, Option.bind_some, hc2, Option.bind_some, p_spec_l27Copy _ (by omega), Option.bind_some]
    unfold nEv
    by_cases he : nEvictable s.Buckets[k] l n = true
    · rw [if_pos he, if_pos he, app_ok (by simp only [List.length_cons, List.length_nil]; omega), Option.bind_some]
      rfl
    · rw [if_neg he, if_neg he, app_ok (by simp only [List.length_cons, List.length_nil]; omega), Option.bind_some]
  · simp only [m_spec_EvictOld_L1]
    rw [if_neg (by rw [nlt_nat]; simp)]
theorem fold_impl {s : M.Storage} {l : List M.Page} {n : Int} (hs : s.ok) (hl : l.length ≤ maxLen) (hz : M.Storage.sz s ≤ 1048576) :
    m_impl_EvictOld s l n = some ((⟨(s.Buckets.foldl (nEv l n) ([], [])).2⟩ : M.Storage), (s.Buckets.foldl (nEv l n) ([], [])).1) := by
  simp only [M.Storage.sz] at hz
  have key := invAll (L := fun m k (q : List ByteArray × List M.Bucket) => m_impl_EvictOld_L1 s l n m k q.1 q.2) (xs := s.Buckets) (step := nEv l n) (I := fun k q => q.1.length + q.2.length = k) (E := fun q => some ((⟨q.2⟩ : M.Storage), q.1)) hs.Buckets.1
    (fun q k hk hi => by
      unfold nEv
      split <;> simp only [List.length_append, List.length_cons, List.length_nil] <;> omega) (fun m q k hk hi => ?_) (fun m q hi => ?_) ([], []) rfl
  · unfold m_impl_EvictOld
    exact key.1
  · have hz1 := szSum_le (f := M.Bucket.sz) (List.getElem_mem hk)
    have hz2 : s.Buckets[k].Site.size + s.Buckets[k].Top.size ≤ M.Bucket.sz s.Buckets[k] := by simp only [M.Bucket.sz]; omega
    have hc1 : cat s.Buckets[k].Site (⟨#[47]⟩ : ByteArray) = some (s.Buckets[k].Site ++ (⟨#[47]⟩ : ByteArray)) := by
      unfold cat; rw [if_pos (by show s.Buckets[k].Site.size + 1 ≤ _; omega)]
    have hc2 : cat (s.Buckets[k].Site ++ (⟨#[47]⟩ : ByteArray)) s.Buckets[k].Top = some (nName s.Buckets[k]) := by
      unfold cat nName; rw [if_pos (by rw [ByteArray.size_append]; show s.Buckets[k].Site.size + 1 + _ ≤ _; omega)]
    simp only [m_impl_EvictOld_L1]
    rw [if_pos (lt_nat hk), idx_nat hk, Option.bind_some, p_impl_IsEvictable hl, Option.bind_some, wrapn (by omega), hc1, Option.bind_some, hc2, Option.bind_some, p_impl_copyBucket _ (by omega), Option.bind_some]
    unfold nEv
    by_cases he : nEvictable s.Buckets[k] l n = true
    · rw [if_pos he, if_pos he, app_ok (by simp only [List.length_cons, List.length_nil]; omega), Option.bind_some]
      rfl
    · rw [if_neg he, if_neg he, app_ok (by simp only [List.length_cons, List.length_nil]; omega), Option.bind_some]
  · simp only [m_impl_EvictOld_L1]
    rw [if_neg (by rw [nlt_nat]; simp)]
theorem p_EvictOld {s : M.Storage} {l : List M.Page} {n : Int} (hs : s.ok) (hl : l.length ≤ maxLen) (hz : M.Storage.sz s ≤ 1048576) :
    ∃ R : M.Storage × List ByteArray, m_spec_EvictOld s l n = some R ∧ m_impl_EvictOld s l n = some R ∧ R.1.ok ∧ okS R.2 ∧ M.Storage.cnts R.1 ≤ 100000000 ∧ R.2.length ≤ 1048576 := by
  refine ⟨_, fold_spec hs hl hz, fold_impl hs hl hz, ?_⟩
  simp only [M.Storage.sz] at hz
  have hd : ∀ (xs : List M.Bucket) (q : List ByteArray × List M.Bucket), (xs.foldl (nEv l n) q).1.length + (xs.foldl (nEv l n) q).2.length = q.1.length + q.2.length + xs.length ∧ (∀ x ∈ (xs.foldl (nEv l n) q).1, x ∈ q.1 ∨ ∃ b ∈ xs, x = nName b) ∧ (∀ b ∈ (xs.foldl (nEv l n) q).2, b ∈ q.2 ∨ b ∈ xs) ∧ szSum M.Bucket.cnt (xs.foldl (nEv l n) q).2 ≤ szSum M.Bucket.cnt q.2 + szSum M.Bucket.cnt xs := by
    intro xs
    induction xs with
    | nil => intro q; exact ⟨by simp, fun x hx => .inl hx, fun b hb => .inl hb, by simp [szSum]⟩
    | cons y ys ih =>
      intro q
      rw [List.foldl_cons]
      by_cases he : nEvictable y l n = true
      · have e : nEv l n q y = (q.1 ++ [nName y], q.2) := by unfold nEv; rw [if_pos he]
        rw [e]
        obtain ⟨i1, i2, i3, i4⟩ := ih (q.1 ++ [nName y], q.2)
        refine ⟨by simp only [List.length_append, List.length_cons, List.length_nil] at i1 ⊢; omega, fun x hx => ?_, fun b hb => ?_, by simp only [szSum] at i4 ⊢; omega⟩
        · rcases i2 x hx with h | ⟨b, hb, h⟩
          · rcases List.mem_append.1 h with h | h
            · exact .inl h
            · exact .inr ⟨y, by simp, by simpa using h⟩
          · exact .inr ⟨b, by simp [hb], h⟩
        · rcases i3 b hb with h | h
          · exact .inl h
          · exact .inr (by simp [h])
      · have e : nEv l n q y = (q.1, q.2 ++ [y]) := by unfold nEv; rw [if_neg he]
        rw [e]
        obtain ⟨i1, i2, i3, i4⟩ := ih (q.1, q.2 ++ [y])
        refine ⟨by simp only [List.length_append, List.length_cons, List.length_nil] at i1 ⊢; omega, fun x hx => ?_, fun b hb => ?_, by simp only [szSum_snoc, szSum] at i4 ⊢; omega⟩
        · rcases i2 x hx with h | ⟨b, hb, h⟩
          · exact .inl h
          · exact .inr ⟨b, by simp [hb], h⟩
        · rcases i3 b hb with h | h
          · rcases List.mem_append.1 h with h | h
            · exact .inl h
            · exact .inr (by simp at h; simp [h])
          · exact .inr (by simp [h])
  obtain ⟨k1, k2, k3, k4⟩ := hd s.Buckets ([], [])
  have hc := M.BucketS.cntle s.Buckets
  simp only [List.length_nil, szSum] at k1 k4
  generalize s.Buckets.foldl (nEv l n) ([], []) = q at k1 k2 k3 k4 ⊢
  obtain ⟨q1, q2⟩ := q
  simp only at k1 k2 k3 k4 ⊢
  refine ⟨⟨⟨Nat.le_trans (show q2.length ≤ s.Buckets.length by omega) hs.Buckets.1, fun b hb => ?_⟩⟩, ⟨by unfold maxLen; omega, fun x hx => ?_⟩, ?_, by omega⟩
  · rcases k3 b hb with h | h
    · simp at h
    · exact hs.Buckets.2 b h
  · rcases k2 x hx with h | ⟨b, hb, rfl⟩
    · simp at h
    · have hz1 := szSum_le (f := M.Bucket.sz) hb
      have hz2 : b.Site.size + b.Top.size ≤ M.Bucket.sz b := by simp only [M.Bucket.sz]; omega
      unfold nName
      rw [ByteArray.size_append, ByteArray.size_append]
      show b.Site.size + 1 + b.Top.size ≤ _
      unfold maxLen
      omega
  · show szSum M.Bucket.cnt q2 ≤ _
    omega
end Go.Proofs.YtgpiencmneiblaaGreat.gen
