/-
  Helper text: plain laws of the functions. No conditions beyond those of each law.
-/
import Derived.Test.YtfcfdnmhpdgjfaaBroadcastPm
namespace Go.Proofs.Ytfcfdnmhpdgjfaa.gen
open Go Go.Sh
set_option linter.unusedVariables false
set_option linter.unusedSimpArgs false
theorem p_IndexFunc_Page {p : M.Page → Option Bool} {f : M.Page → Bool} {xs : List M.Page} (hx : xs.length ≤ maxLen) (hp : ∀ x ∈ xs, p x = some (f x)) : m_slices_IndexFunc_Page xs p = some (fidx f xs) := by
  have hm := le_max hx
  unfold m_slices_IndexFunc_Page
  rw [findAll (L := m_slices_IndexFunc_Page_L1 xs p) (f := f) (A := fun i => some (i : Int)) (E := some (-1)) hx (fun n k hk => by
    simp only [m_slices_IndexFunc_Page_L1]
    rw [if_pos (lt_nat hk), idx_nat hk, Option.bind_some, hp _ (List.getElem_mem hk), Option.bind_some, wrapn (by omega)]) (fun n => by
    simp only [m_slices_IndexFunc_Page_L1]
    rw [if_neg (by rw [nlt_nat]; simp)]), fidx_some]
theorem p_spec_MailsFor {x : M.Channel} {p : Int} (hx : x.Mails.length ≤ 4194304) : m_spec_MailsFor x p = some (x.Mails.filter fun m => m.To == p) := by
  unfold m_spec_MailsFor
  refine filterAll (L := m_spec_MailsFor_L1 x p) (b := 24) (E := some) (by unfold maxLen; omega) (by omega) (fun n r k hk => ?_) (fun n r => ?_)
  · simp only [m_spec_MailsFor_L1]
    rw [if_pos (lt_nat hk), idx_nat hk, Option.bind_some, wrapn (by omega)]
  · simp only [m_spec_MailsFor_L1]
    rw [if_neg (by rw [nlt_nat]; simp)]
theorem p_impl_MailsFor {x : M.Channel} {p : Int} (hx : x.Mails.length ≤ 4194304) : m_impl_MailsFor x p = some (x.Mails.filter fun m => m.To == p) := by
  unfold m_impl_MailsFor
  refine filterAll (L := m_impl_MailsFor_L1 x p) (b := 24) (E := some) (by unfold maxLen; omega) (by omega) (fun n r k hk => ?_) (fun n r => ?_)
  · simp only [m_impl_MailsFor_L1]
    rw [if_pos (lt_nat hk), idx_nat hk, Option.bind_some, wrapn (by omega)]
  · simp only [m_impl_MailsFor_L1]
    rw [if_neg (by rw [nlt_nat]; simp)]
def nTalk (a b : M.Page) : Bool := (a.Site.toList == b.Site.toList) && ((a.Top.toList == b.Top.toList) && (a.Id != b.Id))
def nCast (a : M.Page) (f n : Int) (s : Int × List M.Mail) (p : M.Page) : Int × List M.Mail :=
  if nTalk a p && decide (((s.2.filter fun m => m.To == p.Id).length : Int) < 5) then (s.1 + 1, s.2 ++ [⟨p.Id, f, n⟩]) else s
theorem ite3 {α : Type} (a b : Bool) (x y : α) : (if a = true then (if b = true then x else y) else y) = if (a && b) = true then x else y := by cases a <;> cases b <;> rfl
theorem p_spec_CanTalk (a b : M.Page) : m_spec_CanTalk a b = some (nTalk a b) := by unfold m_spec_CanTalk nTalk; rw [ite_and, ite_and]
theorem p_impl_CanTalk (a b : M.Page) : m_impl_CanTalk a b = some (nTalk a b) := by unfold m_impl_CanTalk nTalk; rw [ite_and, ite_and]
def nBroad (x : M.Channel) (l : List M.Page) (f n : Int) : M.Channel × Int :=
  match l[(fidx (fun p : M.Page => p.Id == f) l).toNat]? with
  | some a => if fidx (fun p : M.Page => p.Id == f) l < 0 then (x, 0) else (⟨(l.foldl (nCast a f n) (0, x.Mails)).2⟩, (l.foldl (nCast a f n) (0, x.Mails)).1)
  | none => (x, 0)
def CastI (m0 : Nat) (f n : Int) (l : List M.Page) (k : Nat) (s : Int × List M.Mail) : Prop := 0 ≤ s.1 ∧ s.1 ≤ k ∧ s.2.length ≤ m0 + k ∧ ∀ m ∈ s.2, M.Mail.ok m
theorem castI_step {m0 : Nat} {f n : Int} {l : List M.Page} (hf : inI f) (hn : inI n) (hl : ∀ p ∈ l, M.Page.ok p) (a : M.Page) : ∀ s (k : Nat) (hk : k < l.length), CastI m0 f n l k s → CastI m0 f n l (k + 1) (nCast a f n s l[k]) := by
  rintro s k hk ⟨h1, h2, h3, h4⟩
  unfold nCast
  split
  · refine ⟨by simp only; omega, by simp only; omega, by simp only [List.length_append, List.length_cons, List.length_nil]; omega, ?_⟩
    intro m hm
    rcases List.mem_append.1 hm with hm | hm
    · exact h4 m hm
    · simp at hm
      subst hm
      exact ⟨(hl _ (List.getElem_mem hk)).Id, hf, hn⟩
  · exact ⟨h1, by omega, by omega, h4⟩
theorem fold_spec {x : M.Channel} {l : List M.Page} {f n : Int} (hx : x.ok) (hl : l.length ≤ maxLen ∧ ∀ p ∈ l, M.Page.ok p) (hf : inI f) (hn : inI n) (hs : x.Mails.length + l.length ≤ 2097152) {j : Nat} {a : M.Page} (hj : l[j]? = some a) :
    m_spec_Broadcast_L1 l f n (j : Int) fuel 0 0 x.Mails = some ((⟨(l.foldl (nCast a f n) (0, x.Mails)).2⟩ : M.Channel), (l.foldl (nCast a f n) (0, x.Mails)).1) ∧ CastI x.Mails.length f n l l.length (l.foldl (nCast a f n) (0, x.Mails)) := by
  have key := invAll (L := fun n' k (s : Int × List M.Mail) => m_spec_Broadcast_L1 l f n (j : Int) n' s.1 k s.2) (xs := l) (step := nCast a f n) (I := CastI x.Mails.length f n l) (E := fun s => some ((⟨s.2⟩ : M.Channel), s.1)) hl.1
    (castI_step hf hn hl.2 a) (fun m s k hk hi => ?_) (fun m s hi => ?_) (0, x.Mails) ⟨by simp, by simp, by simp, hx.Mails.2⟩
  · exact key
  · obtain ⟨h1, h2, h3, h4⟩ := hi
    simp only [m_spec_Broadcast_L1]
    rw [if_pos (lt_nat hk), idx_at hj, Option.bind_some, idx_nat hk, Option.bind_some, p_spec_CanTalk, Option.bind_some, p_spec_MailsFor (by simp only; omega), Option.bind_some, app_ok (by simp only [List.length_cons, List.length_nil]; omega), Option.bind_some, wrap_ok (by omega) (by omega), wrapn (by omega), ite3]
    unfold nCast
    split <;> rfl
  · simp only [m_spec_Broadcast_L1]
    rw [if_neg (by rw [nlt_nat]; simp)]
theorem fold_impl {x : M.Channel} {l : List M.Page} {f n : Int} (hx : x.ok) (hl : l.length ≤ maxLen ∧ ∀ p ∈ l, M.Page.ok p) (hf : inI f) (hn : inI n) (hs : x.Mails.length + l.length ≤ 2097152) {j : Nat} {a : M.Page} (hj : l[j]? = some a) :
    m_impl_Broadcast_L1 l f n (j : Int) fuel 0 0 x.Mails = some ((⟨(l.foldl (nCast a f n) (0, x.Mails)).2⟩ : M.Channel), (l.foldl (nCast a f n) (0, x.Mails)).1) := by
  have key := invAll (L := fun n' k (s : Int × List M.Mail) => m_impl_Broadcast_L1 l f n (j : Int) n' s.1 k s.2) (xs := l) (step := nCast a f n) (I := CastI x.Mails.length f n l) (E := fun s => some ((⟨s.2⟩ : M.Channel), s.1)) hl.1
    (castI_step hf hn hl.2 a) (fun m s k hk hi => ?_) (fun m s hi => ?_) (0, x.Mails) ⟨by simp, by simp, by simp, hx.Mails.2⟩
  · exact key.1
  · obtain ⟨h1, h2, h3, h4⟩ := hi
    simp only [m_impl_Broadcast_L1]
    rw [if_pos (lt_nat hk), idx_nat hk, Option.bind_some, idx_at hj, Option.bind_some, p_impl_CanTalk, Option.bind_some, p_impl_MailsFor (by simp only; omega), Option.bind_some, app_ok (by simp only [List.length_cons, List.length_nil]; omega), Option.bind_some, wrap_ok (by omega) (by omega), wrapn (by omega), ite3]
    unfold nCast
    split <;> rfl
  · simp only [m_impl_Broadcast_L1]
    rw [if_neg (by rw [nlt_nat]; simp)]
theorem p_l26Page {l : List M.Page} {f : Int} (hl : l.length ≤ maxLen) : m_spec_l26Page l f = some (fidx (fun p : M.Page => p.Id == f) l) := by
  have hm := le_max hl
  unfold m_spec_l26Page
  rw [findAll (L := m_spec_l26Page_L1 l f) (f := fun p : M.Page => p.Id == f) (A := fun i => some (i : Int)) (E := some (-1)) hl (fun m k hk => ?_) (fun m => ?_), fidx_some]
  · simp only [m_spec_l26Page_L1]
    rw [if_pos (lt_nat hk), idx_nat hk, Option.bind_some, wrapn (by omega)]
  · simp only [m_spec_l26Page_L1]
    rw [if_neg (by rw [nlt_nat]; simp)]
theorem p_Broadcast {x : M.Channel} {l : List M.Page} {f n : Int} (hx : x.ok) (hl : l.length ≤ maxLen ∧ ∀ p ∈ l, M.Page.ok p) (hf : inI f) (hn : inI n) (hs : x.Mails.length + l.length ≤ 2097152) :
    m_spec_Broadcast x l f n = some (nBroad x l f n) ∧ m_impl_Broadcast x l f n = some (nBroad x l f n) ∧ M.Channel.ok (nBroad x l f n).1 ∧ (nBroad x l f n).1.Mails.length ≤ 2097152 := by
  have hm := le_max hl.1
  have hc : m_spec_l26Copy x = some x := by unfold m_spec_l26Copy; rw [app_ok (by simp; omega), Option.bind_some]
  have hd : m_impl_copyChannel x = some x := by unfold m_impl_copyChannel; rw [app_ok (by simp; omega), Option.bind_some]
  have hi : m_slices_IndexFunc_Page l (fun z0 => m_impl_Broadcast_1 z0 f) = some (fidx (fun p : M.Page => p.Id == f) l) := p_IndexFunc_Page hl.1 (fun x _ => rfl)
  unfold m_spec_Broadcast m_impl_Broadcast
  rw [hc, hd, Option.bind_some, Option.bind_some, p_l26Page hl.1, hi, Option.bind_some, Option.bind_some]
  unfold nBroad
  by_cases h : fidx (fun p : M.Page => p.Id == f) l < 0
  · rw [if_pos (by simpa using h), if_pos (by simpa using h)]
    have e : (match l[(fidx (fun p : M.Page => p.Id == f) l).toNat]? with
      | some a => if fidx (fun p : M.Page => p.Id == f) l < 0 then (x, 0) else (⟨(l.foldl (nCast a f n) (0, x.Mails)).2⟩, (l.foldl (nCast a f n) (0, x.Mails)).1)
      | none => ((x, 0) : M.Channel × Int)) = (x, 0) := by
      split
      · rw [if_pos h]
      · rfl
    rw [e]
    exact ⟨rfl, rfl, hx, by simp only; omega⟩
  · rw [if_neg (by simpa using h), if_neg (by simpa using h)]
    obtain ⟨j, hj, hlt⟩ := fidx_nat h
    have hg : l[j]? = some l[j] := List.getElem?_eq_getElem hlt
    obtain ⟨k1, k2⟩ := fold_spec hx hl hf hn hs hg
    have k3 := fold_impl hx hl hf hn hs hg
    rw [hj, Int.toNat_natCast, hg]
    simp only
    rw [if_neg (by omega), k1, k3]
    obtain ⟨i1, i2, i3, i4⟩ := k2
    exact ⟨rfl, rfl, ⟨⟨Nat.le_trans i3 (by unfold maxLen; omega), i4⟩⟩, Nat.le_trans i3 (by omega)⟩
end Go.Proofs.Ytfcfdnmhpdgjfaa.gen
