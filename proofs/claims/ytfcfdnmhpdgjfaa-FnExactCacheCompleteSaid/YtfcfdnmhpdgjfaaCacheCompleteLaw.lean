/-
  For all arguments the law FnExactCacheComplete answers true: the program's function and the reference's agree, and the arguments stay as they were. No conditions.
-/
import Derived.Test.YtfcfdnmhpdgjfaaCacheCompletePc
import Derived.Test.YtfcfdnmhpdgjfaaCacheCompleteWlaw
import Derived.Test.YtfcfdnmhpdgjfaaCacheCompleteCl
import Derived.Test.YtfcfdnmhpdgjfaaRows
namespace Go.Proofs.Ytfcfdnmhpdgjfaa.gen
open Go Go.Sh
set_option linter.unusedVariables false
set_option linter.unusedSimpArgs false
theorem p_law (p0 : M.CacheSet) (p1 : M.Site) (p2 : Int) (h0 : M.CacheSet.ok p0) (h1 : M.Site.ok p1) (h2 : inI p2) : m_laws_FnExactCacheComplete p0 p1 p2 = some true := by
  unfold m_laws_FnExactCacheComplete
  rw [M.CacheSet.p_sz p0 h0 _ (by omega) (by omega), Option.bind_some]
  by_cases b0 : ((M.CacheSet.sz p0 : Nat) : Int) ≤ 1048576
  rotate_left
  · rw [szOut_no b0, if_pos (by simp)]
  rw [szOut_yes b0, if_neg (by simp; omega)]
  rw [M.Site.p_sz p1 h1 _ (by omega) (by omega), Option.bind_some]
  by_cases b1 : ((M.Site.sz p1 : Nat) : Int) ≤ 1048576 - ((M.CacheSet.sz p0 : Nat) : Int)
  rotate_left
  · rw [szOut_no b1, if_pos (by simp)]
  rw [szOut_yes b1, if_neg (by simp; omega)]
  simp [M.CacheSet.p_to p0 h0 (by omega), M.Site.p_to p1 h1 (by omega), p_spec_CacheComplete h0 h1 (by omega) (by omega), p_impl_CacheComplete h0 h1 (by omega) (by omega), M.CacheSet.p_eq p0 h0, M.Site.p_eq p1 h1]

theorem own : ownKnob Try.prog.godebug = none := by kernel_rfl
theorem laid : laidOutB Try.prog = true := by kernel_rfl

set_option maxRecDepth 100000 in
theorem lifted (os : Os) (started : os.Started) (H : Type) (enc : TypeId × Value → H) :
    ReturnsInHanded {} Try.checked os 7 .any (Rows.fnExactCacheCompleteSpec.pre6 enc Try.prog Try.f7 Rows.fnExactCacheCompleteRow.domain false) (Rows.fnExactCacheCompleteSpec.post enc Try.prog Try.f7 false true false false) := by
  refine returnsInHanded_of_change (C := Try.checked) own started (by as_aux_lemma => kernel_rfl) Try.func7
    (ChangeSpec.witness6 (enc := enc) (C := Try.checked) false ⟨#[], #[.agg #[.slice none 0 0], .agg #[.string ByteArray.empty, .int .i64 0, .slice none 0 0, .bool false], .int .i64 0], []⟩ 8 (by as_aux_lemma => kernel_rfl) (by as_aux_lemma => kernel_rfl) (by as_aux_lemma => kernel_rfl) (by as_aux_lemma => kernel_rfl)) ?_
  intro W base args ds gs before hval hW hcnd _
  refine law_holds (n := 16) (tb := 4) (shs := [M.CacheSet.sh, M.Site.sh, [.int .i64]]) laid rfl (by kernel_rfl) Try.underlying4 ?_ ?_ ?_ ?_ hval hW
  · exact ⟨_, _, rfl, by kernel_rfl, ⟨_, _, rfl, by kernel_rfl, ⟨_, _, rfl, by kernel_rfl, rfl⟩⟩⟩
  · intro t ht
    have : t ∈ [68, 71, 3] := ht
    simp at this
    rcases this with rfl | rfl | rfl
    all_goals exact ⟨by kernel_rfl, of_decide_eq_true (by kernel_rfl)⟩
  · intro ds hl
    match ds, hl with
    | [_, _, _], _ => rfl
  · intro dss hd
    obtain ⟨d0, e0, rfl, k0, r0⟩ := hd
    obtain ⟨d1, e1, rfl, k1, r1⟩ := r0
    obtain ⟨d2, e2, rfl, k2, r2⟩ := r1
    have : e2 = [] := r2
    subst this
    obtain ⟨x0, rfl, h0⟩ := M.CacheSet.of_has _ k0
    obtain ⟨x1, rfl, h1⟩ := M.Site.of_has _ k1
    obtain ⟨x2, rfl, h2⟩ := has_i _ k2
    exact c_laws_FnExactCacheComplete x0 x1 x2 true (p_law x0 x1 x2 h0 h1 h2)

set_option maxRecDepth 100000 in
set_option maxHeartbeats 4000000 in
theorem over : Rows.fnExactCacheCompleteRow.holds Try.pinned (OpenSpec.ofChange Rows.fnExactCacheCompleteSpec) :=
  OpenClaim.holds_of_wide 7 Try.f7 rfl rfl rfl rfl rfl rfl rfl ⟨rfl, rfl, rfl, rfl, rfl⟩ rfl rfl rfl rfl rfl (by as_aux_lemma => kernel_rfl) Try.func7 closed
    (by as_aux_lemma => exact of_decide_eq_true (by kernel_rfl)) (by as_aux_lemma => (unfold Func.isWrapper; first | (rw [if_pos (by decide +kernel)]; kernel_rfl) | (rw [if_neg (by decide +kernel)]; exact ⟨rfl, rfl⟩)))
    (fun os started H enc _ => lifted os started H enc)

theorem proved : Rows.FnExactCacheCompleteSaid := over
#print axioms proved

end Go.Proofs.Ytfcfdnmhpdgjfaa.gen
