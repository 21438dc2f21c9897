/-
  Helper text: the plain laws of mark and held. No conditions beyond those of each law.
-/
import Derived.Test.YtfcfdnmhpdgjfaaBroadcastPz
namespace Go.Proofs.Ytfcfdnmhpdgjfaa.gen
open Go Go.Sh
set_option linter.unusedVariables false
set_option linter.unusedSimpArgs false
theorem mtLoop : ∀ (n : Nat) (v : Int) (b : ByteArray), v.toNat < n → 0 ≤ v → (b.size : Int) + v ≤ KB → ∃ t, m_laws_markText_L1 n v b = some t ∧ t.size ≤ 4611686018427387905
  | 0, v, b, h, _, _ => by omega
  | n + 1, v, b, h, h0, hb => by
    unfold KB at hb
    simp only [m_laws_markText_L1]
    by_cases hv : v > 0
    · rw [if_pos (by simp; omega)]
      have h1 := Int.tmod_nonneg 10 h0
      have h2 := Int.tmod_lt_of_pos v (show (0 : Int) < 10 by omega)
      have hu := u8_range (IntKind.i64.wrap (48 + Int.tmod v 10))
      have hd : Int.tdiv v 10 = v / 10 := Int.tdiv_eq_ediv_of_nonneg h0
      have hs : toStr [IntKind.u8.wrap (IntKind.i64.wrap (48 + Int.tmod v 10))] = some (bytesStr [IntKind.u8.wrap (IntKind.i64.wrap (48 + Int.tmod v 10))]) := by
        unfold toStr; rw [if_pos (by simp; omega)]
      have hz : (bytesStr [IntKind.u8.wrap (IntKind.i64.wrap (48 + Int.tmod v 10))]).size = 1 := rfl
      rw [hs, Option.bind_some]
      unfold cat
      rw [if_pos (by rw [hz]; omega), Option.bind_some, hd, wrap_ok (by omega) (by omega)]
      refine mtLoop n (v / 10) _ (by omega) (by omega) ?_
      rw [ByteArray.size_append, hz]
      unfold KB
      omega
    · rw [if_neg (by simp; omega)]
      have hq : cat (⟨#[109]⟩ : ByteArray) b = some ((⟨#[109]⟩ : ByteArray) ++ b) := by
        unfold cat; rw [if_pos (by show 1 + b.size ≤ _; omega)]
      first | exact ⟨_, by rw [hq, Option.bind_some], by rw [ByteArray.size_append]; show 1 + b.size ≤ _; omega⟩ | exact ⟨_, by rw [hq]; rfl, by rw [ByteArray.size_append]; show 1 + b.size ≤ _; omega⟩
theorem mt_some (k : Int) (h0 : 0 ≤ k) (h : k < KB) : ∃ t, m_laws_markText k = some t := by
  unfold m_laws_markText
  by_cases hk : k ≤ 0
  · exact ⟨_, by rw [if_pos (by simpa using hk)]⟩
  · rw [if_neg (by simpa using hk)]
    obtain ⟨t, h1, _⟩ := mtLoop fuel k ⟨#[]⟩ (by unfold fuel KB at *; omega) h0 (by show ((0 : Nat) : Int) + k ≤ KB; omega)
    exact ⟨t, h1⟩
def mtx (k : Int) : ByteArray := (m_laws_markText k).getD ⟨#[]⟩
theorem mt {k : Int} (h0 : 0 ≤ k) (h : k < KB) : m_laws_markText k = some (mtx k) := by
  obtain ⟨t, ht⟩ := mt_some k h0 h
  unfold mtx; rw [ht]; rfl

def M.Mail.cnt (x : M.Mail) : Nat := 3
theorem M.Mail.mstep (x : M.Mail) (hx : M.Mail.ok x) (k : Int) (h0 : 0 ≤ k) (hB : k + ((M.Mail.cnt x : Nat) : Int) ≤ KB) : ∃ x' : M.Mail, (∀ n (pre post : List M.Mail), (pre ++ x :: post).length ≤ maxLen → m_laws_markMailS_L1 (n + 1) k pre.length (pre ++ x :: post) = m_laws_markMailS_L1 n (k + ((M.Mail.cnt x : Nat) : Int)) ((pre.length + 1 : Nat) : Int) (pre ++ x' :: post)) ∧ ∀ n (l : List M.Mail) (i : Nat), l[i]? = some x' → l.length ≤ maxLen → m_laws_heldMailS_L1 l (n + 1) k i = m_laws_heldMailS_L1 l n (k + ((M.Mail.cnt x : Nat) : Int)) ((i + 1 : Nat) : Int) := by
  unfold KB at hB; unfold M.Mail.cnt at hB ⊢
  refine ⟨⟨k, k + 1, k + 1 + 1⟩, fun n pre post hl => ?_, fun n l i hi hl => ?_⟩
  · have hl' := le_max hl
    have hp : pre.length < 9223372036854775807 := by simp at hl'; omega
    simp only [m_laws_markMailS_L1]
    rw [if_pos (lt_mid pre post x)]
    simp (disch := (first | omega | (unfold KB; omega))) only [idx_mid, set_mid, Option.bind_some, wk, wrapn hp]
    try (congr 1 <;> omega)
  · have hl' := le_max hl
    have hp : i < 9223372036854775807 := by have := (List.getElem?_eq_some_iff.1 hi).1; omega
    simp only [m_laws_heldMailS_L1]
    rw [if_pos (lt_at hi)]
    simp (disch := (first | omega | (unfold KB; omega))) only [idx_at hi, Option.bind_some, wk, wrapn hp, dk, bne_self_eq_false, beq_self_eq_true, Bool.not_true, Bool.false_eq_true, if_false]
    try (congr 1 <;> omega)
theorem M.MailS.p_mark (xs : List M.Mail) (hx : (xs.length ≤ maxLen ∧ ∀ y ∈ xs, M.Mail.ok y)) (k : Int) (h0 : 0 ≤ k) (hB : k + ((szSum M.Mail.cnt xs : Nat) : Int) ≤ KB) : ∃ ys, m_laws_markMailS xs k = some (ys, k + ((szSum M.Mail.cnt xs : Nat) : Int)) ∧ m_laws_heldMailS ys k = some (k + ((szSum M.Mail.cnt xs : Nat) : Int)) ∧ ys.length = xs.length := by
  have hm := le_max hx.1
  obtain ⟨ys, h1, h2, h3⟩ := markHeld (ML := m_laws_markMailS_L1) (HL := m_laws_heldMailS_L1) (c := M.Mail.cnt) (ok := M.Mail.ok) (fun x hx k h0 hB => M.Mail.mstep x hx k h0 hB) (fun n k l => by simp only [m_laws_markMailS_L1]; rw [if_neg (by rw [nlt_nat]; simp)]) (fun n k l => by simp only [m_laws_heldMailS_L1]; rw [if_neg (by rw [nlt_nat]; simp)]) xs [] fuel k (by simpa using hx.1) (by unfold fuel; omega) hx.2 h0 hB
  refine ⟨ys, by unfold m_laws_markMailS; simpa using h2, by unfold m_laws_heldMailS; simpa using h3 fuel (by unfold fuel; omega), h1⟩
def M.Channel.cnts (x : M.Channel) : Nat := (szSum M.Mail.cnt x.Mails)
theorem M.Channel.p_mark (x : M.Channel) (hx : M.Channel.ok x) (k : Int) (h0 : 0 ≤ k) (hB : k + ((M.Channel.cnts x : Nat) : Int) ≤ KB) : ∃ y1, m_laws_markChannel x k = some (y1, k + ((M.Channel.cnts x : Nat) : Int)) ∧ m_laws_heldChannel (⟨y1⟩ : M.Channel) k = some (k + ((M.Channel.cnts x : Nat) : Int)) := by
  unfold KB at hB; unfold M.Channel.cnts at hB ⊢
  obtain ⟨y1, a1, b1, _⟩ := M.MailS.p_mark _ hx.Mails (k) (by omega) (by unfold KB; omega)
  refine ⟨y1, ?_, ?_⟩
  · unfold m_laws_markChannel
    simp only [a1, Option.bind_some]
    try (simp only [Option.some.injEq, Prod.mk.injEq, true_and]; omega)
  · unfold m_laws_heldChannel
    simp (disch := (first | omega | (unfold KB; omega))) only [b1, Option.bind_some, dk, Bool.false_eq_true, if_false]
    try (simp only [Option.some.injEq]; omega)
def M.Loaded.cnt (x : M.Loaded) : Nat := 2
theorem M.Loaded.mstep (x : M.Loaded) (hx : M.Loaded.ok x) (k : Int) (h0 : 0 ≤ k) (hB : k + ((M.Loaded.cnt x : Nat) : Int) ≤ KB) : ∃ x' : M.Loaded, (∀ n (pre post : List M.Loaded), (pre ++ x :: post).length ≤ maxLen → m_laws_markLoadedS_L1 (n + 1) k pre.length (pre ++ x :: post) = m_laws_markLoadedS_L1 n (k + ((M.Loaded.cnt x : Nat) : Int)) ((pre.length + 1 : Nat) : Int) (pre ++ x' :: post)) := by
  unfold KB at hB; unfold M.Loaded.cnt at hB ⊢
  refine ⟨⟨(mtx (k)), k + 1⟩, fun n pre post hl => ?_⟩
  have hl' := le_max hl
  have hp : pre.length < 9223372036854775807 := by simp at hl'; omega
  simp only [m_laws_markLoadedS_L1]
  rw [if_pos (lt_mid pre post x)]
  simp (disch := (first | omega | (unfold KB; omega))) only [idx_mid, set_mid, Option.bind_some, wk, wrapn hp, mt]
  try (congr 1 <;> omega)
theorem M.LoadedS.p_mark (xs : List M.Loaded) (hx : (xs.length ≤ maxLen ∧ ∀ y ∈ xs, M.Loaded.ok y)) (k : Int) (h0 : 0 ≤ k) (hB : k + ((szSum M.Loaded.cnt xs : Nat) : Int) ≤ KB) : ∃ ys, m_laws_markLoadedS xs k = some (ys, k + ((szSum M.Loaded.cnt xs : Nat) : Int)) := by
  have hm := le_max hx.1
  obtain ⟨ys, h2⟩ := markOnly (ML := m_laws_markLoadedS_L1) (c := M.Loaded.cnt) (ok := M.Loaded.ok) (fun x hx k h0 hB => M.Loaded.mstep x hx k h0 hB) (fun n k l => by simp only [m_laws_markLoadedS_L1]; rw [if_neg (by rw [nlt_nat]; simp)]) xs [] fuel k (by simpa using hx.1) (by unfold fuel; omega) hx.2 h0 hB
  exact ⟨ys, by unfold m_laws_markLoadedS; simpa using h2⟩
def M.Instr.cnt (x : M.Instr) : Nat := 4
theorem M.Instr.mstep (x : M.Instr) (hx : M.Instr.ok x) (k : Int) (h0 : 0 ≤ k) (hB : k + ((M.Instr.cnt x : Nat) : Int) ≤ KB) : ∃ x' : M.Instr, (∀ n (pre post : List M.Instr), (pre ++ x :: post).length ≤ maxLen → m_laws_markInstrS_L1 (n + 1) k pre.length (pre ++ x :: post) = m_laws_markInstrS_L1 n (k + ((M.Instr.cnt x : Nat) : Int)) ((pre.length + 1 : Nat) : Int) (pre ++ x' :: post)) := by
  unfold KB at hB; unfold M.Instr.cnt at hB ⊢
  refine ⟨⟨k, k + 1, k + 1 + 1, (mtx (k + 1 + 1 + 1))⟩, fun n pre post hl => ?_⟩
  have hl' := le_max hl
  have hp : pre.length < 9223372036854775807 := by simp at hl'; omega
  simp only [m_laws_markInstrS_L1]
  rw [if_pos (lt_mid pre post x)]
  simp (disch := (first | omega | (unfold KB; omega))) only [idx_mid, set_mid, Option.bind_some, wk, wrapn hp, mt]
  try (congr 1 <;> omega)
theorem M.InstrS.p_mark (xs : List M.Instr) (hx : (xs.length ≤ maxLen ∧ ∀ y ∈ xs, M.Instr.ok y)) (k : Int) (h0 : 0 ≤ k) (hB : k + ((szSum M.Instr.cnt xs : Nat) : Int) ≤ KB) : ∃ ys, m_laws_markInstrS xs k = some (ys, k + ((szSum M.Instr.cnt xs : Nat) : Int)) := by
  have hm := le_max hx.1
  obtain ⟨ys, h2⟩ := markOnly (ML := m_laws_markInstrS_L1) (c := M.Instr.cnt) (ok := M.Instr.ok) (fun x hx k h0 hB => M.Instr.mstep x hx k h0 hB) (fun n k l => by simp only [m_laws_markInstrS_L1]; rw [if_neg (by rw [nlt_nat]; simp)]) xs [] fuel k (by simpa using hx.1) (by unfold fuel; omega) hx.2 h0 hB
  exact ⟨ys, by unfold m_laws_markInstrS; simpa using h2⟩
theorem M.IntS.mstep (x : Int) (hx : True) (k : Int) (h0 : 0 ≤ k) (hB : k + (((fun _ : Int => 1) x : Nat) : Int) ≤ KB) : ∃ x' : Int, (∀ n (pre post : List Int), (pre ++ x :: post).length ≤ maxLen → m_laws_markIntS_L1 (n + 1) k pre.length (pre ++ x :: post) = m_laws_markIntS_L1 n (k + (((fun _ : Int => 1) x : Nat) : Int)) ((pre.length + 1 : Nat) : Int) (pre ++ x' :: post)) := by
  unfold KB at hB
  refine ⟨k, fun n pre post hl => ?_⟩
  have hl' := le_max hl
  have hp : pre.length < 9223372036854775807 := by simp at hl'; omega
  simp only [m_laws_markIntS_L1]
  rw [if_pos (lt_mid pre post x)]
  simp (disch := (first | omega | (unfold KB; omega))) only [idx_mid, set_mid, Option.bind_some, wk, wrapn hp]
  try (congr 1 <;> omega)
theorem M.IntS.cl (xs : List Int) : szSum (fun _ : Int => 1) xs = xs.length := by
  induction xs with
  | nil => rfl
  | cons x xs ih => simp only [szSum, ih, List.length_cons]; omega
theorem M.IntS.p_mark (xs : List Int) (hx : okI xs) (k : Int) (h0 : 0 ≤ k) (hB : k + ((xs.length : Nat) : Int) ≤ KB) : ∃ ys, m_laws_markIntS xs k = some (ys, k + ((xs.length : Nat) : Int)) := by
  have hm := le_max hx.1
  rw [← M.IntS.cl xs] at hB ⊢
  obtain ⟨ys, h2⟩ := markOnly (ML := m_laws_markIntS_L1) (c := (fun _ : Int => 1)) (ok := (fun _ : Int => True)) (fun x hx k h0 hB => M.IntS.mstep x hx k h0 hB) (fun n k l => by simp only [m_laws_markIntS_L1]; rw [if_neg (by rw [nlt_nat]; simp)]) xs [] fuel k (by simpa using hx.1) (by unfold fuel; omega) (fun _ _ => trivial) h0 hB
  exact ⟨ys, by unfold m_laws_markIntS; simpa using h2⟩
def M.Page.cnt (x : M.Page) : Nat := 8 + (szSum M.Loaded.cnt x.Loaded) + (szSum M.Instr.cnt x.Machine.Script) + (x.Machine.Regs.length)
theorem M.Page.mstep (x : M.Page) (hx : M.Page.ok x) (k : Int) (h0 : 0 ≤ k) (hB : k + ((M.Page.cnt x : Nat) : Int) ≤ KB) : ∃ x' : M.Page, (∀ n (pre post : List M.Page), (pre ++ x :: post).length ≤ maxLen → m_laws_markPageS_L1 (n + 1) k pre.length (pre ++ x :: post) = m_laws_markPageS_L1 n (k + ((M.Page.cnt x : Nat) : Int)) ((pre.length + 1 : Nat) : Int) (pre ++ x' :: post)) := by
  unfold KB at hB; unfold M.Page.cnt at hB ⊢
  obtain ⟨y1, a1⟩ := M.LoadedS.p_mark _ hx.Loaded (k + 1 + 1 + 1 + 1) (by omega) (by unfold KB; omega)
  obtain ⟨y2, a2⟩ := M.InstrS.p_mark _ hx.Machine.Script (k + 1 + 1 + 1 + 1 + ((szSum M.Loaded.cnt x.Loaded : Nat) : Int)) (by omega) (by unfold KB; omega)
  obtain ⟨y3, a3⟩ := M.IntS.p_mark _ hx.Machine.Regs (k + 1 + 1 + 1 + 1 + ((szSum M.Loaded.cnt x.Loaded : Nat) : Int) + ((szSum M.Instr.cnt x.Machine.Script : Nat) : Int) + 1) (by omega) (by unfold KB; omega)
  refine ⟨⟨k, (mtx (k + 1)), (mtx (k + 1 + 1)), k + 1 + 1 + 1, y1, ⟨y2, k + 1 + 1 + 1 + 1 + ((szSum M.Loaded.cnt x.Loaded : Nat) : Int) + ((szSum M.Instr.cnt x.Machine.Script : Nat) : Int), y3, k + 1 + 1 + 1 + 1 + ((szSum M.Loaded.cnt x.Loaded : Nat) : Int) + ((szSum M.Instr.cnt x.Machine.Script : Nat) : Int) + 1 + ((x.Machine.Regs.length : Nat) : Int), ((Int.tmod (k + 1 + 1 + 1 + 1 + ((szSum M.Loaded.cnt x.Loaded : Nat) : Int) + ((szSum M.Instr.cnt x.Machine.Script : Nat) : Int) + 1 + ((x.Machine.Regs.length : Nat) : Int) + 1) 3) == 0), ((Int.tmod (k + 1 + 1 + 1 + 1 + ((szSum M.Loaded.cnt x.Loaded : Nat) : Int) + ((szSum M.Instr.cnt x.Machine.Script : Nat) : Int) + 1 + ((x.Machine.Regs.length : Nat) : Int) + 1 + 1) 3) == 0)⟩⟩, fun n pre post hl => ?_⟩
  have hl' := le_max hl
  have hp : pre.length < 9223372036854775807 := by simp at hl'; omega
  simp only [m_laws_markPageS_L1]
  rw [if_pos (lt_mid pre post x)]
  simp (disch := (first | omega | (unfold KB; omega))) only [idx_mid, set_mid, Option.bind_some, wk, wrapn hp, mt, a1, a2, a3]
  try (congr 1 <;> omega)
theorem M.PageS.p_mark (xs : List M.Page) (hx : (xs.length ≤ maxLen ∧ ∀ y ∈ xs, M.Page.ok y)) (k : Int) (h0 : 0 ≤ k) (hB : k + ((szSum M.Page.cnt xs : Nat) : Int) ≤ KB) : ∃ ys, m_laws_markPageS xs k = some (ys, k + ((szSum M.Page.cnt xs : Nat) : Int)) := by
  have hm := le_max hx.1
  obtain ⟨ys, h2⟩ := markOnly (ML := m_laws_markPageS_L1) (c := M.Page.cnt) (ok := M.Page.ok) (fun x hx k h0 hB => M.Page.mstep x hx k h0 hB) (fun n k l => by simp only [m_laws_markPageS_L1]; rw [if_neg (by rw [nlt_nat]; simp)]) xs [] fuel k (by simpa using hx.1) (by unfold fuel; omega) hx.2 h0 hB
  exact ⟨ys, by unfold m_laws_markPageS; simpa using h2⟩
theorem M.Mail.cntle (x : M.Mail) : M.Mail.cnt x ≤ 40 := by
  unfold M.Mail.cnt
  omega
theorem M.MailS.cntle (xs : List M.Mail) : szSum M.Mail.cnt xs ≤ 40 * (xs.length) := Nat.le_trans (szSum_const (fun x _ => M.Mail.cntle x)) (by omega)
theorem M.Channel.cntsle (x : M.Channel) : M.Channel.cnts x ≤ 40 * M.Channel.sz x := by
  unfold M.Channel.cnts
  unfold M.Channel.sz
  have := M.MailS.cntle x.Mails
  omega
theorem M.Loaded.cntle (x : M.Loaded) : M.Loaded.cnt x ≤ 40 + 40 * M.Loaded.sz x := by
  unfold M.Loaded.cnt
  unfold M.Loaded.sz
  omega
theorem M.LoadedS.cntle (xs : List M.Loaded) : szSum M.Loaded.cnt xs ≤ 40 * ((xs.length + szSum M.Loaded.sz xs)) := szSum_mul (fun x _ => M.Loaded.cntle x)
theorem M.Instr.cntle (x : M.Instr) : M.Instr.cnt x ≤ 40 + 40 * M.Instr.sz x := by
  unfold M.Instr.cnt
  unfold M.Instr.sz
  omega
theorem M.InstrS.cntle (xs : List M.Instr) : szSum M.Instr.cnt xs ≤ 40 * ((xs.length + szSum M.Instr.sz xs)) := szSum_mul (fun x _ => M.Instr.cntle x)
theorem M.IntS.cntle (xs : List Int) : xs.length ≤ 40 * (xs.length) := by omega
theorem M.Page.cntle (x : M.Page) : M.Page.cnt x ≤ 40 + 40 * M.Page.sz x := by
  unfold M.Page.cnt
  unfold M.Page.sz M.Machine.sz
  have := M.LoadedS.cntle x.Loaded
  have := M.InstrS.cntle x.Machine.Script
  have := M.IntS.cntle x.Machine.Regs
  omega
theorem M.PageS.cntle (xs : List M.Page) : szSum M.Page.cnt xs ≤ 40 * ((xs.length + szSum M.Page.sz xs)) := szSum_mul (fun x _ => M.Page.cntle x)
end Go.Proofs.Ytfcfdnmhpdgjfaa.gen
