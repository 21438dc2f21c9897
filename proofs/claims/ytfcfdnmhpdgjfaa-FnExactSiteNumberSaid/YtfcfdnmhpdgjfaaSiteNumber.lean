/-
  For every string the law FnExactSiteNumber answers true: the program's SiteNumber and the reference's agree. No conditions.
-/
import Derived.Test.YtfcfdnmhpdgjfaaShD
import Derived.Test.YtfcfdnmhpdgjfaaRows
import Derived.KernelRfl
namespace Go.Proofs.Ytfcfdnmhpdgjfaa.siteNumber
open Go.Sh
set_option linter.unusedVariables false
set_option linter.unusedSimpArgs false
theorem ti3 : tiOf Try.prog 3 = some { k := .int .i64, size := 1, bytes := 8, zero := [.dat (.int .i64 0)] } := by kernel_rfl
theorem ti9 : tiOf Try.prog 9 = some { k := .str, size := 1, bytes := 16, zero := [.dat (.str ⟨#[]⟩)] } := by kernel_rfl
theorem ti69 : tiOf Try.prog 69 = some { k := .slice 9, size := 1, bytes := 24, zero := [.nil] } := by kernel_rfl
theorem mixed : Try.prog.follows .mixedOrders = true := by kernel_rfl

def encS (s : ByteArray) : List D := [.str s]
def names : List ByteArray := [⟨#[98, 97, 110, 107]⟩, ⟨#[110, 101, 119, 115]⟩, ⟨#[115, 104, 111, 112]⟩]

theorem c42 : SCalls Try.prog 42 [] [(false, [.own 9 1 (names.map encS)])] := by
  refine scalls_of Try.func42 rfl rfl (by decide) fun base w0 => ?_
  refine SW_seq (SW_region ?_)
  simp [Try.f42]
  refine SW_seq (SW_region ?_)
  simp [ti69, ti9]
  refine SW_ret ?_
  simp [Ret, names, encS]

/-- where a string stands in a list; -1 if it does not -/
def idxFrom (l : List ByteArray) (x : ByteArray) (k : Nat) : Int := match (l.drop k).findIdx? (fun y => y.toList == x.toList) with | some i => ((i + k : Nat) : Int) | none => -1

theorem idx_hit {l : List ByteArray} {x : ByteArray} {k : Nat} (h : k < l.length) (hb : (l[k].toList == x.toList) = true) : idxFrom l x k = k := by
  unfold idxFrom
  rw [List.drop_eq_getElem_cons h, List.findIdx?_cons, hb]
  simp
theorem idx_miss {l : List ByteArray} {x : ByteArray} {k : Nat} (h : k < l.length) (hb : (l[k].toList == x.toList) = false) : idxFrom l x k = idxFrom l x (k + 1) := by
  unfold idxFrom
  rw [List.drop_eq_getElem_cons h, List.findIdx?_cons, hb]
  simp only [Bool.false_eq_true, if_false]
  cases (l.drop (k + 1)).findIdx? (fun y => y.toList == x.toList) with
  | none => rfl
  | some i => simp; omega
theorem idx_end {l : List ByteArray} {x : ByteArray} {k : Nat} (h : l.length ≤ k) : idxFrom l x k = -1 := by
  unfold idxFrom
  rw [List.drop_of_length_le h]
  rfl

theorem beq_comm' (a b : List UInt8) : (a == b) = (b == a) := by
  rw [Bool.eq_iff_iff]; exact ⟨fun h => by rw [beq_iff_eq] at *; exact h.symm, fun h => by rw [beq_iff_eq] at *; exact h.symm⟩

set_option maxHeartbeats 1000000 in
theorem c43 (l : List ByteArray) (x : ByteArray) (hl : l.length ≤ 1000000) : SCalls Try.prog 43 [(false, [.sl (l.map encS)]), (false, [.str x])] [(false, [.ro (.int .i64 (idxFrom l x 0))])] := by
  refine scalls_of Try.func43 rfl rfl (Nat.le_of_ble_eq_true rfl) fun base w0 => ?_
  refine SW_seq (SW_region ?_)
  simp [Try.f43]
  refine SW_seq ?_
  refine SW_seq (SW_region ?_)
  simp [ti69, ti9]
  refine SW_block ?_
  refine SW_loop (fun m s => ∃ k, k ≤ l.length ∧ m = l.length - k ∧ s.t 0 = .v false [.dat (.sl (l.map encS))] ∧ s.t 1 = .v false [.dat (.str x)] ∧ s.t 7 = .v false [.dat (.int .i64 l.length)] ∧ s.t 8 = .v false [.dat (.int .i64 k)] ∧ idxFrom l x 0 = idxFrom l x k) l.length ⟨0, by simp, by simp, by simp, by simp, by simp, by simp, rfl⟩ ?_
  rintro m s ⟨k, hk, rfl, h0, h1, h7, h8, hi⟩
  refine SW_seq (SW_region ?_)
  simp [h7, h8]
  refine SW_seq (SW_cond (b := decide (k < l.length)) (by simp) (fun hb => ?_) (fun hb => ?_))
  · have hlt : k < l.length := by simpa using hb
    refine SW_skip ?_
    simp
    refine SW_seq (SW_block ?_)
    refine SW_seq (SW_region ?_)
    simp [h8]
    refine SW_seq (SW_region ?_)
    simp [h0, h1, ti69, ti9, hlt, encS]
    refine SW_cond (b := x.toList == l[k].toList) (by simp) (fun hb => ?_) (fun hb => ?_)
    · refine SW_seq (SW_region ?_)
      simp
      refine SW_ret ?_
      simp [Ret, hi]
      exact (idx_hit hlt (by rw [beq_comm']; exact hb)).symm
    · refine SW_skip ?_
      simp
      refine SW_region ?_
      simp [h8]
      refine ⟨_, ?_, k + 1, hlt, rfl, h0, h1, h7, ?_, ?_⟩
      · omega
      · rw [wrap_ok (by omega) (by omega)]; simp
      · rw [hi]; exact idx_miss hlt (by rw [beq_comm']; exact hb)
  · have hge : l.length ≤ k := by simpa using hb
    refine SW_exit ?_
    simp
    refine SW_seq (SW_region ?_)
    simp
    refine SW_ret ?_
    simp [Ret, hi]
    exact (idx_end hge).symm

set_option maxHeartbeats 1000000 in
theorem c9 (x : ByteArray) : SCalls Try.prog 9 [(false, [.str x])] [(false, [.ro (.int .i64 (idxFrom names x 0))])] := by
  refine scalls_of Try.func9 rfl rfl (Nat.le_of_ble_eq_true rfl) fun base w0 => ?_
  refine SW_seq (SW_region ?_)
  simp [Try.f9]
  refine SW_seq (SW_region ?_)
  simp [ti69, ti9]
  refine ⟨_, c42, ?_⟩
  simp
  refine SW_seq (SW_seq (SW_region ?_))
  simp
  refine SW_block ?_
  have hn : names.length = 3 := rfl
  refine SW_loop (fun m s => ∃ k, k ≤ 3 ∧ m = 3 - k ∧ s.t 0 = .v false [.dat (.str x)] ∧ s.t 3 = .v false [.row 100005 1] ∧ s.h 100005 = (1, .row 9 1 (names.map encS) true) ∧ s.t 4 = .v false [.dat (.int .i64 k)] ∧ idxFrom names x 0 = idxFrom names x k) 3 ⟨0, by simp, by simp, by simp, by simp, by simp, by simp, rfl⟩ ?_
  rintro m s ⟨k, hk, rfl, h0, h3, hh, h4, hi⟩
  refine SW_seq (SW_seq (SW_region ?_))
  simp [h3, h4, hh, ti69, hn]
  refine SW_if ?_
  simp
  refine ⟨fun hb => ?_, fun hb => ?_⟩
  · have hlt : k < names.length := by rw [hn]; omega
    refine SW_skip ?_
    simp
    refine SW_seq (SW_block (SW_seq (SW_region ?_)))
    simp [h0, h3, h4, hh, ti69, ti9, hlt, encS]
    refine SW_if ?_
    simp
    refine ⟨fun hb => ?_, fun hb => ?_⟩
    · refine SW_seq (SW_region ?_)
      simp [h4]
      refine SW_ret ?_
      simp [Ret, hi]
      exact (idx_hit hlt (by simpa using hb)).symm
    · refine SW_skip ?_
      simp
      refine SW_region ?_
      simp [h4]
      refine ⟨_, ?_, k + 1, hlt, rfl, h0, h3, hh, ?_, ?_⟩
      · omega
      · rw [wrap_ok (by omega) (by omega)]; simp
      · rw [hi]; exact idx_miss hlt (by simpa using hb)
  · refine SW_exit ?_
    simp
    refine SW_seq (SW_region ?_)
    simp
    refine SW_ret ?_
    simp [Ret, hi]
    exact (idx_end (by rw [hn]; omega)).symm

theorem c10 (x : ByteArray) : SCalls Try.prog 10 [(false, [.str x])] [(false, [.ro (.int .i64 (idxFrom names x 0))])] := by
  refine scalls_of Try.func10 rfl rfl (Nat.le_of_ble_eq_true rfl) fun base w0 => ?_
  refine SW_seq (SW_region ?_)
  simp [Try.f10]
  refine SW_seq (SW_region ?_)
  simp [ti69, ti9]
  refine ⟨_, c43 names x (by simp [names]), ?_⟩
  simp
  refine SW_ret ?_
  simp [Ret]

theorem c3 (x : ByteArray) : SCalls Try.prog 3 [(false, [.str x])] [(false, [.ro (.bool true)])] := by
  refine scalls_of Try.func3 rfl rfl (Nat.le_of_ble_eq_true rfl) fun base w0 => ?_
  refine SW_seq (SW_region ?_)
  simp [Try.f3]
  refine SW_seq (SW_seq (SW_region ?_))
  simp [ti9]
  refine SW_if ?_
  simp
  refine ⟨fun hb => ?_, fun hb => ?_⟩
  · refine SW_seq (SW_region ?_)
    simp
    refine SW_ret ?_
    simp [Ret]
  · refine SW_skip ?_
    simp
    refine SW_seq (SW_region ?_)
    simp
    refine ⟨_, c9 x, ?_⟩
    simp
    refine SW_seq (SW_region ?_)
    simp
    refine ⟨_, c10 x, ?_⟩
    simp
    refine SW_seq (SW_seq (SW_region ?_))
    simp
    refine SW_if ?_
    simp
    refine SW_skip ?_
    simp
    refine SW_seq (SW_region ?_)
    simp
    refine SW_ret ?_
    simp [Ret]

theorem own : ownKnob Try.prog.godebug = none := by kernel_rfl
theorem laid : laidOutB Try.prog = true := by kernel_rfl

set_option maxRecDepth 100000 in
theorem lifted (os : Os) (started : os.Started) (H : Type) (enc : TypeId × Value → H) :
    ReturnsInHanded {} Try.checked os 3 .any (Rows.fnExactSiteNumberSpec.pre6 enc Try.prog Try.f3 Rows.fnExactSiteNumberRow.domain false) (Rows.fnExactSiteNumberSpec.post enc Try.prog Try.f3 false true false false) := by
  refine returnsInHanded_of_change (C := Try.checked) own started (by kernel_rfl) Try.func3
    (ChangeSpec.witness6 (enc := enc) (C := Try.checked) false ⟨#[], #[.string ByteArray.empty], []⟩ 8 (by kernel_rfl) (by kernel_rfl) (by kernel_rfl) (by kernel_rfl)) ?_
  intro W base args ds gs before hval hW hcnd _
  refine law_holds (n := 8) (tb := 4) (shs := [[.str]]) laid rfl (by kernel_rfl) Try.underlying4 ?_ ?_ ?_ ?_ hval hW
  · exact ⟨_, [], rfl, by kernel_rfl, rfl⟩
  · intro t ht
    have : t ∈ [9] := ht
    simp at this
    subst this
    exact ⟨by kernel_rfl, of_decide_eq_true (by kernel_rfl)⟩
  · intro ds hl
    match ds, hl with
    | [d], _ => rfl
  · intro dss hd
    obtain ⟨d, ds', rfl, h1, h2⟩ := hd
    have : ds' = [] := h2
    subst this
    simp only [HasL, Has] at h1
    obtain ⟨_, _, rfl, ⟨x, rfl, _⟩, rfl⟩ := h1
    exact c3 x

theorem over : Rows.fnExactSiteNumberRow.holds Try.pinned (OpenSpec.ofChange Rows.fnExactSiteNumberSpec) :=
  OpenClaim.holds_of_wide 3 Try.f3 rfl rfl rfl rfl rfl rfl rfl ⟨rfl, rfl, rfl, rfl, rfl⟩ rfl rfl rfl rfl rfl (by kernel_rfl) Try.func3 (by kernel_rfl)
    (of_decide_eq_true (by kernel_rfl)) (by unfold Func.isWrapper; first | (rw [if_pos (by decide +kernel)]; kernel_rfl) | (rw [if_neg (by decide +kernel)]; exact ⟨rfl, rfl⟩))
    (fun os started H enc _ => lifted os started H enc)

theorem proved : Rows.FnExactSiteNumberSaid := over
#print axioms proved
end Go.Proofs.Ytfcfdnmhpdgjfaa.siteNumber
