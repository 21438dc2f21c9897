/-
  For every two pages the law FnExactCanTalk answers true: the program's CanTalk and the reference's agree, and the arguments stay as they were. No conditions.
-/
import Derived.Test.YtfcfdnmhpdgjfaaGen
import Derived.Test.YtfcfdnmhpdgjfaaRows
namespace Go.Proofs.Ytfcfdnmhpdgjfaa.canTalk
open Go.Sh
set_option linter.unusedVariables false
set_option linter.unusedSimpArgs false
open Go.Proofs.Ytfcfdnmhpdgjfaa.gen
set_option maxHeartbeats 2000000 in
theorem spec_CanTalk (a0 : Int) (a1 : ByteArray) (a2 : ByteArray) (a3 : Int) (a4 : List (List D)) (a5 : List (List D)) (a6 : Int) (a7 : List (List D)) (a8 : Int) (a9 : Bool) (a10 : Bool) (b0 : Int) (b1 : ByteArray) (b2 : ByteArray) (b3 : Int) (b4 : List (List D)) (b5 : List (List D)) (b6 : Int) (b7 : List (List D)) (b8 : Int) (b9 : Bool) (b10 : Bool) : SCalls Try.prog 20 [(true, [.int .i64 a0, .str a1, .str a2, .int .i64 a3, .sl a4, .sl a5, .int .i64 a6, .sl a7, .int .i64 a8, .bool a9, .bool a10]), (true, [.int .i64 b0, .str b1, .str b2, .int .i64 b3, .sl b4, .sl b5, .int .i64 b6, .sl b7, .int .i64 b8, .bool b9, .bool b10])] [(false, [.ro (.bool ((a1.toList == b1.toList) && (a2.toList == b2.toList) && (a0 != b0)))])] := by
  refine scalls_of Try.func20 rfl rfl (Nat.le_of_ble_eq_true rfl) fun base wd => ?_
  unfold Try.f20
  refine SW_seq (SW_region ?_)
  simp
  refine SW_seq (SW_region ?_)
  cases h1 : (a1.toList == b1.toList)
  · simp [ti46, ti54, ti3, ti9, ti4, h1]
    refine SW_ret ?_
    simp [Ret]
  · cases h2 : (a2.toList == b2.toList)
    · simp [ti46, ti54, ti3, ti9, ti4, h1, h2]
      refine SW_ret ?_
      simp [Ret]
    · simp [ti46, ti54, ti3, ti9, ti4, h1, h2]
      refine SW_ret ?_
      simp [Ret]
set_option maxHeartbeats 2000000 in
theorem impl_CanTalk (a0 : Int) (a1 : ByteArray) (a2 : ByteArray) (a3 : Int) (a4 : List (List D)) (a5 : List (List D)) (a6 : Int) (a7 : List (List D)) (a8 : Int) (a9 : Bool) (a10 : Bool) (b0 : Int) (b1 : ByteArray) (b2 : ByteArray) (b3 : Int) (b4 : List (List D)) (b5 : List (List D)) (b6 : Int) (b7 : List (List D)) (b8 : Int) (b9 : Bool) (b10 : Bool) : SCalls Try.prog 22 [(true, [.int .i64 a0, .str a1, .str a2, .int .i64 a3, .sl a4, .sl a5, .int .i64 a6, .sl a7, .int .i64 a8, .bool a9, .bool a10]), (true, [.int .i64 b0, .str b1, .str b2, .int .i64 b3, .sl b4, .sl b5, .int .i64 b6, .sl b7, .int .i64 b8, .bool b9, .bool b10])] [(false, [.ro (.bool ((a1.toList == b1.toList) && (a2.toList == b2.toList) && (a0 != b0)))])] := by
  refine scalls_of Try.func22 rfl rfl (Nat.le_of_ble_eq_true rfl) fun base wd => ?_
  unfold Try.f22
  refine SW_seq (SW_region ?_)
  simp
  refine SW_seq (SW_region ?_)
  cases h1 : (a1.toList == b1.toList)
  · simp [ti46, ti54, ti3, ti9, ti4, h1]
    refine SW_ret ?_
    simp [Ret]
  · cases h2 : (a2.toList == b2.toList)
    · simp [ti46, ti54, ti3, ti9, ti4, h1, h2]
      refine SW_ret ?_
      simp [Ret]
    · simp [ti46, ti54, ti3, ti9, ti4, h1, h2]
      refine SW_ret ?_
      simp [Ret]
set_option maxHeartbeats 8000000 in
theorem law (a0 : Int) (a1 : ByteArray) (a2 : ByteArray) (a3 : Int) (a4 : List (List D)) (a5 : List (List D)) (a6 : Int) (a7 : List (List D)) (a8 : Int) (a9 : Bool) (a10 : Bool) (wa1 : a1.size ≤ maxLen) (wa2 : a2.size ≤ maxLen) (wa4 : a4.length ≤ maxLen) (qa4 : (∀ x ∈ a4, HasL shLoaded x)) (wa5 : a5.length ≤ maxLen) (qa5 : (∀ x ∈ a5, HasL shInstr x)) (wa7 : a7.length ≤ maxLen) (qa7 : (∀ x ∈ a7, HasL shInt x)) (b0 : Int) (b1 : ByteArray) (b2 : ByteArray) (b3 : Int) (b4 : List (List D)) (b5 : List (List D)) (b6 : Int) (b7 : List (List D)) (b8 : Int) (b9 : Bool) (b10 : Bool) (wb1 : b1.size ≤ maxLen) (wb2 : b2.size ≤ maxLen) (wb4 : b4.length ≤ maxLen) (qb4 : (∀ x ∈ b4, HasL shLoaded x)) (wb5 : b5.length ≤ maxLen) (qb5 : (∀ x ∈ b5, HasL shInstr x)) (wb7 : b7.length ≤ maxLen) (qb7 : (∀ x ∈ b7, HasL shInt x)) : SCalls Try.prog 5 [(true, [.int .i64 a0, .str a1, .str a2, .int .i64 a3, .sl a4, .sl a5, .int .i64 a6, .sl a7, .int .i64 a8, .bool a9, .bool a10]), (true, [.int .i64 b0, .str b1, .str b2, .int .i64 b3, .sl b4, .sl b5, .int .i64 b6, .sl b7, .int .i64 b8, .bool b9, .bool b10])] [(false, [.ro (.bool true)])] := by
  refine scalls_of Try.func5 rfl rfl (Nat.le_of_ble_eq_true rfl) fun base wd => ?_
  unfold Try.f5
  repeat' (first
    | refine SW_seq ?_
    | (refine SW_region ?_; simp [ti46, ti54, ti3, ti9, ti4]; try simp (disch := omega) only [szOut_neg, szOut_pos, szOut_ok])
    | (refine SW_draw mixed ?_; simp [ti46, ti54, ti3, ti9, ti4])
    | (refine SW_skip ?_; simp)
    | (refine SW_if ?_; simp; try simp (disch := omega) only [szOut_neg, szOut_pos, szOut_ok])
    | ((with_reducible refine ⟨_, laws_szPage a0 a1 a2 a3 a4 a5 a6 a7 a8 a9 a10 _ (by omega) (by omega) wa1 wa2 wa4 qa4 wa5 qa5 wa7 qa7, ?_⟩); simp [ti46, ti54, ti3, ti9, ti4]; try simp (disch := omega) only [szOut_neg, szOut_pos, szOut_ok])
    | ((with_reducible refine ⟨_, laws_szPage b0 b1 b2 b3 b4 b5 b6 b7 b8 b9 b10 _ (by omega) (by omega) wb1 wb2 wb4 qb4 wb5 qb5 wb7 qb7, ?_⟩); simp [ti46, ti54, ti3, ti9, ti4]; try simp (disch := omega) only [szOut_neg, szOut_pos, szOut_ok])
    | ((with_reducible refine ⟨_, laws_toPage a0 a1 a2 a3 a4 a5 a6 a7 a8 a9 a10 wa1 wa2 wa4 qa4 wa5 qa5 wa7 qa7 (by omega), ?_⟩); simp [ti46, ti54, ti3, ti9, ti4]; try simp (disch := omega) only [szOut_neg, szOut_pos, szOut_ok])
    | ((with_reducible refine ⟨_, laws_toPage b0 b1 b2 b3 b4 b5 b6 b7 b8 b9 b10 wb1 wb2 wb4 qb4 wb5 qb5 wb7 qb7 (by omega), ?_⟩); simp [ti46, ti54, ti3, ti9, ti4]; try simp (disch := omega) only [szOut_neg, szOut_pos, szOut_ok])
    | ((with_reducible refine ⟨_, spec_CanTalk a0 a1 a2 a3 a4 a5 a6 a7 a8 a9 a10 b0 b1 b2 b3 b4 b5 b6 b7 b8 b9 b10, ?_⟩); simp [ti46, ti54, ti3, ti9, ti4]; try simp (disch := omega) only [szOut_neg, szOut_pos, szOut_ok])
    | ((with_reducible refine ⟨_, impl_CanTalk a0 a1 a2 a3 a4 a5 a6 a7 a8 a9 a10 b0 b1 b2 b3 b4 b5 b6 b7 b8 b9 b10, ?_⟩); simp [ti46, ti54, ti3, ti9, ti4]; try simp (disch := omega) only [szOut_neg, szOut_pos, szOut_ok])
    | ((with_reducible refine ⟨_, laws_eqPage a0 a1 a2 a3 a4 a5 a6 a7 a8 a9 a10 wa1 wa2 wa4 qa4 wa5 qa5 wa7 qa7, ?_⟩); simp [ti46, ti54, ti3, ti9, ti4]; try simp (disch := omega) only [szOut_neg, szOut_pos, szOut_ok])
    | ((with_reducible refine ⟨_, laws_eqPage b0 b1 b2 b3 b4 b5 b6 b7 b8 b9 b10 wb1 wb2 wb4 qb4 wb5 qb5 wb7 qb7, ?_⟩); simp [ti46, ti54, ti3, ti9, ti4]; try simp (disch := omega) only [szOut_neg, szOut_pos, szOut_ok])
    | refine ⟨fun hb => ?_, fun hb => ?_⟩
    | refine ⟨by decide +kernel, ?_⟩
    | (refine SW_ret ?_; simp [Ret]))

theorem own : ownKnob Try.prog.godebug = none := by kernel_rfl
theorem laid : laidOutB Try.prog = true := by kernel_rfl

set_option maxRecDepth 100000 in
theorem lifted (os : Os) (started : os.Started) (H : Type) (enc : TypeId × Value → H) :
    ReturnsInHanded {} Try.checked os 5 .any (Rows.fnExactCanTalkSpec.pre6 enc Try.prog Try.f5 Rows.fnExactCanTalkRow.domain false) (Rows.fnExactCanTalkSpec.post enc Try.prog Try.f5 false true false false) := by
  refine returnsInHanded_of_change (C := Try.checked) own started (by kernel_rfl) Try.func5
    (ChangeSpec.witness6 (enc := enc) (C := Try.checked) false ⟨#[], #[.agg #[.int .i64 0, .string ByteArray.empty, .string ByteArray.empty, .int .i64 0, .slice none 0 0, .slice none 0 0, .int .i64 0, .slice none 0 0, .int .i64 0, .bool false, .bool false], .agg #[.int .i64 0, .string ByteArray.empty, .string ByteArray.empty, .int .i64 0, .slice none 0 0, .slice none 0 0, .int .i64 0, .slice none 0 0, .int .i64 0, .bool false, .bool false]], []⟩ 8 (by kernel_rfl) (by kernel_rfl) (by kernel_rfl) (by kernel_rfl)) ?_
  intro W base args ds gs before hval hW hcnd _
  refine law_holds (n := 8) (tb := 4) (shs := [shPage, shPage]) laid rfl (by kernel_rfl) Try.underlying4 ?_ ?_ ?_ ?_ hval hW
  · exact ⟨_, _, rfl, by kernel_rfl, ⟨_, _, rfl, by kernel_rfl, rfl⟩⟩
  · intro t ht
    have : t ∈ [46, 46] := ht
    simp at this
    rcases this with rfl
    all_goals exact ⟨by kernel_rfl, of_decide_eq_true (by kernel_rfl)⟩
  · intro ds hl
    match ds, hl with
    | [x0, x1], _ => rfl
  · intro dss hd
    obtain ⟨d0, e0, rfl, k0, r0⟩ := hd
    obtain ⟨d1, e1, rfl, k1, r1⟩ := r0
    have : e1 = [] := r1
    subst this
    obtain ⟨a0, a1, a2, a3, a4, a5, a6, a7, a8, a9, a10, rfl, wa1, wa2, wa4, qa4, wa5, qa5, wa7, qa7⟩ := op_shPage k0
    obtain ⟨b0, b1, b2, b3, b4, b5, b6, b7, b8, b9, b10, rfl, wb1, wb2, wb4, qb4, wb5, qb5, wb7, qb7⟩ := op_shPage k1
    exact law a0 a1 a2 a3 a4 a5 a6 a7 a8 a9 a10 wa1 wa2 wa4 qa4 wa5 qa5 wa7 qa7 b0 b1 b2 b3 b4 b5 b6 b7 b8 b9 b10 wb1 wb2 wb4 qb4 wb5 qb5 wb7 qb7

theorem over : Rows.fnExactCanTalkRow.holds Try.pinned (OpenSpec.ofChange Rows.fnExactCanTalkSpec) :=
  OpenClaim.holds_of_wide 5 Try.f5 rfl rfl rfl rfl rfl rfl rfl ⟨rfl, rfl, rfl, rfl, rfl⟩ rfl rfl rfl rfl rfl (by kernel_rfl) Try.func5 (by kernel_rfl)
    (of_decide_eq_true (by kernel_rfl)) (by unfold Func.isWrapper; first | (rw [if_pos (by decide +kernel)]; kernel_rfl) | (rw [if_neg (by decide +kernel)]; exact ⟨rfl, rfl⟩))
    (fun os started H enc _ => lifted os started H enc)

theorem proved : Rows.FnExactCanTalkSaid := over
#print axioms proved
end Go.Proofs.Ytfcfdnmhpdgjfaa.canTalk
