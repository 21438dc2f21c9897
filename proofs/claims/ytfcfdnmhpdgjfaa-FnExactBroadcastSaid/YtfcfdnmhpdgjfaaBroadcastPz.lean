/-
  Helper text: the plain laws of sz, to and eq. No conditions beyond those of each law.
-/
import Derived.Test.YtfcfdnmhpdgjfaaBroadcastMod
namespace Go.Proofs.Ytfcfdnmhpdgjfaa.gen
open Go Go.Sh
set_option linter.unusedVariables false
set_option linter.unusedSimpArgs false
structure M.Mail.ok (x : M.Mail) : Prop where
  To : inI x.To
  From : inI x.From
  N : inI x.N
def M.Mail.sh : List Shp := [.int .i64, .int .i64, .int .i64]
theorem M.Mail.of_has (d : List D) (h : HasL M.Mail.sh d) : ∃ x, d = M.Mail.en x ∧ M.Mail.ok x := by
  simp only [M.Mail.sh, HasL, Has] at h
  obtain ⟨_, _, rfl, ⟨a1, rfl, w1⟩, _, _, rfl, ⟨a2, rfl, w2⟩, _, _, rfl, ⟨a3, rfl, w3⟩, rfl⟩ := h
  exact ⟨⟨a1, a2, a3⟩, rfl, ⟨wf_i64 w1, wf_i64 w2, wf_i64 w3⟩⟩
theorem M.Mail.p_to (x : M.Mail) (hx : M.Mail.ok x) : m_laws_toMail x = some x := by
  unfold m_laws_toMail
  rfl
theorem M.Mail.p_eq (x : M.Mail) (hx : M.Mail.ok x) : m_laws_eqMail x x = some true := by
  simp [m_laws_eqMail]
theorem M.MailS.p_sz (xs : List M.Mail) (hx : (xs.length ≤ maxLen ∧ ∀ y ∈ xs, M.Mail.ok y)) : Sz (m_laws_szMailS xs) (xs.length) := by
  intro l a b
  unfold m_laws_szMailS
  exact (Sz.str hx.1) l a b
theorem M.MailS.p_to (xs : List M.Mail) (hx : (xs.length ≤ maxLen ∧ ∀ y ∈ xs, M.Mail.ok y)) (hs : xs.length ≤ 1048576) : m_laws_toMailS xs = some xs := by
  have hm := le_max hx.1
  unfold m_laws_toMailS
  rw [mkL_ok (by omega) (by omega), Option.bind_some]
  refine toLoop hx.1 (fun n k r hk hr => ?_) (fun n r => ?_) fuel 0 _ (by unfold fuel; omega) (by omega) (by simp) (by simp)
  · simp only [m_laws_toMailS_L1]
    rw [if_pos (lt_nat hk), idx_nat hk, Option.bind_some, M.Mail.p_to _ (hx.2 _ (List.getElem_mem hk)), Option.bind_some, idx_nat (by omega), Option.bind_some, wrapn (by omega), Int.toNat_natCast]
  · simp only [m_laws_toMailS_L1]
    rw [if_neg (by rw [nlt_nat]; simp)]
theorem M.MailS.p_eq (xs : List M.Mail) (hx : (xs.length ≤ maxLen ∧ ∀ y ∈ xs, M.Mail.ok y)) : m_laws_eqMailS xs xs = some true := by
  have hm := le_max hx.1
  unfold m_laws_eqMailS
  rw [if_neg (by simp)]
  refine eqLoop hx.1 (fun n k hk => ?_) (fun n => ?_) fuel 0 (by unfold fuel; omega) (by omega)
  · simp only [m_laws_eqMailS_L1]
    rw [if_pos (lt_nat hk), idx_nat hk]
    simp [wrapn (show k < 9223372036854775807 by omega), M.Mail.p_eq _ (hx.2 _ (List.getElem_mem hk))]
  · simp only [m_laws_eqMailS_L1]
    rw [if_neg (by rw [nlt_nat]; simp)]
structure M.Channel.ok (x : M.Channel) : Prop where
  Mails : (x.Mails.length ≤ maxLen ∧ ∀ y ∈ x.Mails, M.Mail.ok y)
def M.Channel.sh : List Shp := [.sl M.Mail.sh]
theorem M.Channel.of_has (d : List D) (h : HasL M.Channel.sh d) : ∃ x, d = M.Channel.en x ∧ M.Channel.ok x := by
  simp only [M.Channel.sh, HasL, Has] at h
  obtain ⟨_, _, rfl, ⟨_, rfl, w1, q1⟩, rfl⟩ := h
  obtain ⟨a1, rfl, e1⟩ := list_of_has M.Mail.of_has q1
  exact ⟨⟨a1⟩, rfl, ⟨⟨by simpa using w1, e1⟩⟩⟩
def M.Channel.sz (x : M.Channel) : Nat := x.Mails.length
theorem M.Channel.p_sz (x : M.Channel) (hx : M.Channel.ok x) : Sz (m_laws_szChannel x) (M.Channel.sz x) := by
  intro l a b
  unfold m_laws_szChannel M.Channel.sz
  exact (Sz.call (M.MailS.p_sz _ hx.Mails)) l a b
theorem M.Channel.p_to (x : M.Channel) (hx : M.Channel.ok x) (hs : M.Channel.sz x ≤ 1048576) : m_laws_toChannel x = some x := by
  unfold M.Channel.sz at hs
  unfold m_laws_toChannel
  rw [M.MailS.p_to _ hx.Mails (by omega), Option.bind_some]
theorem M.Channel.p_eq (x : M.Channel) (hx : M.Channel.ok x) : m_laws_eqChannel x x = some true := by
  simp [m_laws_eqChannel, M.MailS.p_eq _ hx.Mails]
structure M.Loaded.ok (x : M.Loaded) : Prop where
  Path : x.Path.size ≤ maxLen
  Version : inI x.Version
def M.Loaded.sh : List Shp := [.str, .int .i64]
theorem M.Loaded.of_has (d : List D) (h : HasL M.Loaded.sh d) : ∃ x, d = M.Loaded.en x ∧ M.Loaded.ok x := by
  simp only [M.Loaded.sh, HasL, Has] at h
  obtain ⟨_, _, rfl, ⟨a1, rfl, w1⟩, _, _, rfl, ⟨a2, rfl, w2⟩, rfl⟩ := h
  exact ⟨⟨a1, a2⟩, rfl, ⟨w1, wf_i64 w2⟩⟩
def M.Loaded.sz (x : M.Loaded) : Nat := x.Path.size
theorem M.Loaded.p_sz (x : M.Loaded) (hx : M.Loaded.ok x) : Sz (m_laws_szLoaded x) (M.Loaded.sz x) := by
  intro l a b
  unfold m_laws_szLoaded M.Loaded.sz
  exact (Sz.str hx.Path) l a b
theorem M.Loaded.p_to (x : M.Loaded) (hx : M.Loaded.ok x) (hs : M.Loaded.sz x ≤ 1048576) : m_laws_toLoaded x = some x := by
  unfold M.Loaded.sz at hs
  unfold m_laws_toLoaded
  rfl
theorem M.Loaded.p_eq (x : M.Loaded) (hx : M.Loaded.ok x) : m_laws_eqLoaded x x = some true := by
  simp [m_laws_eqLoaded]
theorem M.LoadedS.p_sz (xs : List M.Loaded) (hx : (xs.length ≤ maxLen ∧ ∀ y ∈ xs, M.Loaded.ok y)) : Sz (m_laws_szLoadedS xs) ((xs.length + szSum M.Loaded.sz xs)) := by
  intro l a b
  unfold m_laws_szLoadedS
  exact (Sz.list' hx.1 (fun x h => M.Loaded.p_sz x (hx.2 x h)) (fun _ _ _ => rfl)) l a b
theorem M.LoadedS.p_to (xs : List M.Loaded) (hx : (xs.length ≤ maxLen ∧ ∀ y ∈ xs, M.Loaded.ok y)) (hs : (xs.length + szSum M.Loaded.sz xs) ≤ 1048576) : m_laws_toLoadedS xs = some xs := by
  have hm := le_max hx.1
  unfold m_laws_toLoadedS
  rw [mkL_ok (by omega) (by omega), Option.bind_some]
  refine toLoop hx.1 (fun n k r hk hr => ?_) (fun n r => ?_) fuel 0 _ (by unfold fuel; omega) (by omega) (by simp) (by simp)
  · simp only [m_laws_toLoadedS_L1]
    rw [if_pos (lt_nat hk), idx_nat hk, Option.bind_some, M.Loaded.p_to _ (hx.2 _ (List.getElem_mem hk)) (by have := szSum_le (f := M.Loaded.sz) (List.getElem_mem hk); omega), Option.bind_some, idx_nat (by omega), Option.bind_some, wrapn (by omega), Int.toNat_natCast]
  · simp only [m_laws_toLoadedS_L1]
    rw [if_neg (by rw [nlt_nat]; simp)]
theorem M.LoadedS.p_eq (xs : List M.Loaded) (hx : (xs.length ≤ maxLen ∧ ∀ y ∈ xs, M.Loaded.ok y)) : m_laws_eqLoadedS xs xs = some true := by
  have hm := le_max hx.1
  unfold m_laws_eqLoadedS
  rw [if_neg (by simp)]
  refine eqLoop hx.1 (fun n k hk => ?_) (fun n => ?_) fuel 0 (by unfold fuel; omega) (by omega)
  · simp only [m_laws_eqLoadedS_L1]
    rw [if_pos (lt_nat hk), idx_nat hk]
    simp [wrapn (show k < 9223372036854775807 by omega), M.Loaded.p_eq _ (hx.2 _ (List.getElem_mem hk))]
  · simp only [m_laws_eqLoadedS_L1]
    rw [if_neg (by rw [nlt_nat]; simp)]
structure M.Instr.ok (x : M.Instr) : Prop where
  Kind : inI x.Kind
  R : inI x.R
  N : inI x.N
  Text : x.Text.size ≤ maxLen
def M.Instr.sh : List Shp := [.int .i64, .int .i64, .int .i64, .str]
theorem M.Instr.of_has (d : List D) (h : HasL M.Instr.sh d) : ∃ x, d = M.Instr.en x ∧ M.Instr.ok x := by
  simp only [M.Instr.sh, HasL, Has] at h
  obtain ⟨_, _, rfl, ⟨a1, rfl, w1⟩, _, _, rfl, ⟨a2, rfl, w2⟩, _, _, rfl, ⟨a3, rfl, w3⟩, _, _, rfl, ⟨a4, rfl, w4⟩, rfl⟩ := h
  exact ⟨⟨a1, a2, a3, a4⟩, rfl, ⟨wf_i64 w1, wf_i64 w2, wf_i64 w3, w4⟩⟩
def M.Instr.sz (x : M.Instr) : Nat := x.Text.size
theorem M.Instr.p_sz (x : M.Instr) (hx : M.Instr.ok x) : Sz (m_laws_szInstr x) (M.Instr.sz x) := by
  intro l a b
  unfold m_laws_szInstr M.Instr.sz
  exact (Sz.str hx.Text) l a b
theorem M.Instr.p_to (x : M.Instr) (hx : M.Instr.ok x) (hs : M.Instr.sz x ≤ 1048576) : m_laws_toInstr x = some x := by
  unfold M.Instr.sz at hs
  unfold m_laws_toInstr
  rfl
theorem M.Instr.p_eq (x : M.Instr) (hx : M.Instr.ok x) : m_laws_eqInstr x x = some true := by
  simp [m_laws_eqInstr]
theorem M.InstrS.p_sz (xs : List M.Instr) (hx : (xs.length ≤ maxLen ∧ ∀ y ∈ xs, M.Instr.ok y)) : Sz (m_laws_szInstrS xs) ((xs.length + szSum M.Instr.sz xs)) := by
  intro l a b
  unfold m_laws_szInstrS
  exact (Sz.list' hx.1 (fun x h => M.Instr.p_sz x (hx.2 x h)) (fun _ _ _ => rfl)) l a b
theorem M.InstrS.p_to (xs : List M.Instr) (hx : (xs.length ≤ maxLen ∧ ∀ y ∈ xs, M.Instr.ok y)) (hs : (xs.length + szSum M.Instr.sz xs) ≤ 1048576) : m_laws_toInstrS xs = some xs := by
  have hm := le_max hx.1
  unfold m_laws_toInstrS
  rw [mkL_ok (by omega) (by omega), Option.bind_some]
  refine toLoop hx.1 (fun n k r hk hr => ?_) (fun n r => ?_) fuel 0 _ (by unfold fuel; omega) (by omega) (by simp) (by simp)
  · simp only [m_laws_toInstrS_L1]
    rw [if_pos (lt_nat hk), idx_nat hk, Option.bind_some, M.Instr.p_to _ (hx.2 _ (List.getElem_mem hk)) (by have := szSum_le (f := M.Instr.sz) (List.getElem_mem hk); omega), Option.bind_some, idx_nat (by omega), Option.bind_some, wrapn (by omega), Int.toNat_natCast]
  · simp only [m_laws_toInstrS_L1]
    rw [if_neg (by rw [nlt_nat]; simp)]
theorem M.InstrS.p_eq (xs : List M.Instr) (hx : (xs.length ≤ maxLen ∧ ∀ y ∈ xs, M.Instr.ok y)) : m_laws_eqInstrS xs xs = some true := by
  have hm := le_max hx.1
  unfold m_laws_eqInstrS
  rw [if_neg (by simp)]
  refine eqLoop hx.1 (fun n k hk => ?_) (fun n => ?_) fuel 0 (by unfold fuel; omega) (by omega)
  · simp only [m_laws_eqInstrS_L1]
    rw [if_pos (lt_nat hk), idx_nat hk]
    simp [wrapn (show k < 9223372036854775807 by omega), M.Instr.p_eq _ (hx.2 _ (List.getElem_mem hk))]
  · simp only [m_laws_eqInstrS_L1]
    rw [if_neg (by rw [nlt_nat]; simp)]
theorem M.IntS.p_sz (xs : List Int) (hx : okI xs) : Sz (m_laws_szIntS xs) (xs.length) := by
  intro l a b
  unfold m_laws_szIntS
  exact (Sz.str hx.1) l a b
theorem M.IntS.p_to (xs : List Int) (hx : okI xs) (hs : xs.length ≤ 1048576) : m_laws_toIntS xs = some xs := by
  have hm := le_max hx.1
  unfold m_laws_toIntS
  rw [mkL_ok (by omega) (by omega), Option.bind_some]
  refine toLoop hx.1 (fun n k r hk hr => ?_) (fun n r => ?_) fuel 0 _ (by unfold fuel; omega) (by omega) (by simp) (by simp)
  · simp only [m_laws_toIntS_L1]
    rw [if_pos (lt_nat hk), idx_nat hk, Option.bind_some, idx_nat (by omega), Option.bind_some, wrapn (by omega), Int.toNat_natCast]
  · simp only [m_laws_toIntS_L1]
    rw [if_neg (by rw [nlt_nat]; simp)]
theorem M.IntS.p_eq (xs : List Int) (hx : okI xs) : m_laws_eqIntS xs xs = some true := by
  have hm := le_max hx.1
  unfold m_laws_eqIntS
  rw [if_neg (by simp)]
  refine eqLoop hx.1 (fun n k hk => ?_) (fun n => ?_) fuel 0 (by unfold fuel; omega) (by omega)
  · simp only [m_laws_eqIntS_L1]
    rw [if_pos (lt_nat hk), idx_nat hk]
    simp [wrapn (show k < 9223372036854775807 by omega)]
  · simp only [m_laws_eqIntS_L1]
    rw [if_neg (by rw [nlt_nat]; simp)]
structure M.Machine.ok (x : M.Machine) : Prop where
  Script : (x.Script.length ≤ maxLen ∧ ∀ y ∈ x.Script, M.Instr.ok y)
  Pc : inI x.Pc
  Regs : okI x.Regs
  Steps : inI x.Steps
def M.Machine.sh : List Shp := [.sl M.Instr.sh, .int .i64, .sl [.int .i64], .int .i64, .bool, .bool]
theorem M.Machine.of_has (d : List D) (h : HasL M.Machine.sh d) : ∃ x, d = M.Machine.en x ∧ M.Machine.ok x := by
  simp only [M.Machine.sh, HasL, Has] at h
  obtain ⟨_, _, rfl, ⟨_, rfl, w1, q1⟩, _, _, rfl, ⟨a2, rfl, w2⟩, _, _, rfl, ⟨_, rfl, w3, q3⟩, _, _, rfl, ⟨a4, rfl, w4⟩, _, _, rfl, ⟨a5, rfl⟩, _, _, rfl, ⟨a6, rfl⟩, rfl⟩ := h
  obtain ⟨a1, rfl, e1⟩ := list_of_has M.Instr.of_has q1
  obtain ⟨a3, rfl, e3⟩ := list_of_has has_i q3
  exact ⟨⟨a1, a2, a3, a4, a5, a6⟩, rfl, ⟨⟨by simpa using w1, e1⟩, wf_i64 w2, ⟨by simpa using w3, e3⟩, wf_i64 w4⟩⟩
def M.Machine.sz (x : M.Machine) : Nat := (x.Script.length + szSum M.Instr.sz x.Script) + (x.Regs.length)
theorem M.Machine.p_sz (x : M.Machine) (hx : M.Machine.ok x) : Sz (m_laws_szMachine x) (M.Machine.sz x) := by
  intro l a b
  unfold m_laws_szMachine M.Machine.sz
  exact (Sz.seqCall (M.InstrS.p_sz _ hx.Script) (Sz.call (M.IntS.p_sz _ hx.Regs))) l a b
theorem M.Machine.p_to (x : M.Machine) (hx : M.Machine.ok x) (hs : M.Machine.sz x ≤ 1048576) : m_laws_toMachine x = some x := by
  unfold M.Machine.sz at hs
  unfold m_laws_toMachine
  rw [M.InstrS.p_to _ hx.Script (by omega), Option.bind_some, M.IntS.p_to _ hx.Regs (by omega), Option.bind_some]
theorem M.Machine.p_eq (x : M.Machine) (hx : M.Machine.ok x) : m_laws_eqMachine x x = some true := by
  simp [m_laws_eqMachine, M.InstrS.p_eq _ hx.Script, M.IntS.p_eq _ hx.Regs]
structure M.Page.ok (x : M.Page) : Prop where
  Id : inI x.Id
  Site : x.Site.size ≤ maxLen
  Top : x.Top.size ≤ maxLen
  Version : inI x.Version
  Loaded : (x.Loaded.length ≤ maxLen ∧ ∀ y ∈ x.Loaded, M.Loaded.ok y)
  Machine : M.Machine.ok x.Machine
def M.Page.sh : List Shp := [.int .i64, .str, .str, .int .i64, .sl M.Loaded.sh, .sl M.Instr.sh, .int .i64, .sl [.int .i64], .int .i64, .bool, .bool]
theorem M.Page.of_has (d : List D) (h : HasL M.Page.sh d) : ∃ x, d = M.Page.en x ∧ M.Page.ok x := by
  simp only [M.Page.sh, HasL, Has] at h
  obtain ⟨_, _, rfl, ⟨a1, rfl, w1⟩, _, _, rfl, ⟨a2, rfl, w2⟩, _, _, rfl, ⟨a3, rfl, w3⟩, _, _, rfl, ⟨a4, rfl, w4⟩, _, _, rfl, ⟨_, rfl, w5, q5⟩, _, _, rfl, ⟨_, rfl, w6, q6⟩, _, _, rfl, ⟨a7, rfl, w7⟩, _, _, rfl, ⟨_, rfl, w8, q8⟩, _, _, rfl, ⟨a9, rfl, w9⟩, _, _, rfl, ⟨a10, rfl⟩, _, _, rfl, ⟨a11, rfl⟩, rfl⟩ := h
  obtain ⟨a5, rfl, e5⟩ := list_of_has M.Loaded.of_has q5
  obtain ⟨a6, rfl, e6⟩ := list_of_has M.Instr.of_has q6
  obtain ⟨a8, rfl, e8⟩ := list_of_has has_i q8
  exact ⟨⟨a1, a2, a3, a4, a5, ⟨a6, a7, a8, a9, a10, a11⟩⟩, rfl, ⟨wf_i64 w1, w2, w3, wf_i64 w4, ⟨by simpa using w5, e5⟩, ⟨⟨by simpa using w6, e6⟩, wf_i64 w7, ⟨by simpa using w8, e8⟩, wf_i64 w9⟩⟩⟩
def M.Page.sz (x : M.Page) : Nat := x.Site.size + (x.Top.size + ((x.Loaded.length + szSum M.Loaded.sz x.Loaded) + (M.Machine.sz x.Machine)))
theorem M.Page.p_sz (x : M.Page) (hx : M.Page.ok x) : Sz (m_laws_szPage x) (M.Page.sz x) := by
  intro l a b
  unfold m_laws_szPage M.Page.sz
  exact (Sz.seqStr hx.Site (Sz.seqStr hx.Top (Sz.seqCall (M.LoadedS.p_sz _ hx.Loaded) (Sz.call (M.Machine.p_sz _ hx.Machine))))) l a b
theorem M.Page.p_to (x : M.Page) (hx : M.Page.ok x) (hs : M.Page.sz x ≤ 1048576) : m_laws_toPage x = some x := by
  unfold M.Page.sz at hs
  unfold m_laws_toPage
  rw [M.LoadedS.p_to _ hx.Loaded (by omega), Option.bind_some, M.Machine.p_to _ hx.Machine (by omega), Option.bind_some]
theorem M.Page.p_eq (x : M.Page) (hx : M.Page.ok x) : m_laws_eqPage x x = some true := by
  simp [m_laws_eqPage, M.LoadedS.p_eq _ hx.Loaded, M.Machine.p_eq _ hx.Machine]
theorem M.PageS.p_sz (xs : List M.Page) (hx : (xs.length ≤ maxLen ∧ ∀ y ∈ xs, M.Page.ok y)) : Sz (m_laws_szPageS xs) ((xs.length + szSum M.Page.sz xs)) := by
  intro l a b
  unfold m_laws_szPageS
  exact (Sz.list' hx.1 (fun x h => M.Page.p_sz x (hx.2 x h)) (fun _ _ _ => rfl)) l a b
theorem M.PageS.p_to (xs : List M.Page) (hx : (xs.length ≤ maxLen ∧ ∀ y ∈ xs, M.Page.ok y)) (hs : (xs.length + szSum M.Page.sz xs) ≤ 1048576) : m_laws_toPageS xs = some xs := by
  have hm := le_max hx.1
  unfold m_laws_toPageS
  rw [mkL_ok (by omega) (by omega), Option.bind_some]
  refine toLoop hx.1 (fun n k r hk hr => ?_) (fun n r => ?_) fuel 0 _ (by unfold fuel; omega) (by omega) (by simp) (by simp)
  · simp only [m_laws_toPageS_L1]
    rw [if_pos (lt_nat hk), idx_nat hk, Option.bind_some, M.Page.p_to _ (hx.2 _ (List.getElem_mem hk)) (by have := szSum_le (f := M.Page.sz) (List.getElem_mem hk); omega), Option.bind_some, idx_nat (by omega), Option.bind_some, wrapn (by omega), Int.toNat_natCast]
  · simp only [m_laws_toPageS_L1]
    rw [if_neg (by rw [nlt_nat]; simp)]
theorem M.PageS.p_eq (xs : List M.Page) (hx : (xs.length ≤ maxLen ∧ ∀ y ∈ xs, M.Page.ok y)) : m_laws_eqPageS xs xs = some true := by
  have hm := le_max hx.1
  unfold m_laws_eqPageS
  rw [if_neg (by simp)]
  refine eqLoop hx.1 (fun n k hk => ?_) (fun n => ?_) fuel 0 (by unfold fuel; omega) (by omega)
  · simp only [m_laws_eqPageS_L1]
    rw [if_pos (lt_nat hk), idx_nat hk]
    simp [wrapn (show k < 9223372036854775807 by omega), M.Page.p_eq _ (hx.2 _ (List.getElem_mem hk))]
  · simp only [m_laws_eqPageS_L1]
    rw [if_neg (by rw [nlt_nat]; simp)]
end Go.Proofs.Ytfcfdnmhpdgjfaa.gen
