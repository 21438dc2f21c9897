/-
  For all arguments the law FnExactNewBucket answers true: the program's function and the reference's agree, and the arguments stay as they were. No conditions.
-/
import Derived.Test.YtgemmnkhddlhpaaGreatNewBucketPk
import Derived.Test.YtgemmnkhddlhpaaGreatNewBucketWlaw
import Derived.Test.YtgemmnkhddlhpaaGreatNewBucketCl
import Derived.Test.YtgemmnkhddlhpaaGreatRows
namespace Go.Proofs.YtgemmnkhddlhpaaGreat.gen
open Go Go.Sh
set_option linter.unusedVariables false
set_option linter.unusedSimpArgs false
theorem p_law (p0 : ByteArray) (p1 : ByteArray) (p2 : Int) (h0 : p0.size ≤ maxLen) (h1 : p1.size ≤ maxLen) (h2 : inI p2) : m_laws_FnExactNewBucket p0 p1 p2 = some true := by
  unfold m_laws_FnExactNewBucket
  by_cases b0 : (p0.size : Int) ≤ 1048576
  rotate_left
  · rw [if_pos (by simp; omega)]
  rw [if_neg (by simp; omega)]
  by_cases b1 : (p1.size : Int) ≤ 1048576
  rotate_left
  · rw [if_pos (by simp; omega)]
  rw [if_neg (by simp; omega)]
  have cr0 : M.Bucket.cnts ((nNewR p0 p1 p2).1) ≤ 1000000000000 := Nat.le_trans (nNewR_cnt p0 p1 p2) (by omega)
  obtain ⟨z0_0, z0_1, z0_2, z0_3, z0_4, z0_5, mr0, hr0⟩ := M.Bucket.p_mark ((nNewR p0 p1 p2).1) (nNewR_ok h0 h1 h2) (1) (by omega) (by unfold KB; omega)
  have hq0 : ¬ (1 + ((M.Bucket.cnts ((nNewR p0 p1 p2).1) : Nat) : Int) < 0) := by omega
  simp [p_spec_NewBucket h0 h1 h2, p_impl_NewBucket h0 h1 h2, mr0, hr0, M.Bucket.p_eq ((nNewR p0 p1 p2).1) (nNewR_ok h0 h1 h2), hq0]

theorem own : ownKnob Tryz.prog.godebug = none := by kernel_rfl
theorem laid : laidOutB Tryz.prog = true := cp_laid

set_option maxRecDepth 100000 in
theorem lifted (os : Os) (started : os.Started) (H : Type) (enc : TypeId × Value → H) :
    ReturnsInHanded {} Tryz.checked os 3 .any (Rows.fnExactNewBucketSpec.pre6 enc Tryz.prog Tryz.f3 Rows.fnExactNewBucketRow.domain false) (Rows.fnExactNewBucketSpec.post enc Tryz.prog Tryz.f3 false true false false) := by
  refine returnsInHanded_of_change (C := Tryz.checked) own started (by as_aux_lemma => kernel_rfl) Tryz.func3
    (ChangeSpec.witness6 (enc := enc) (C := Tryz.checked) false ⟨#[], #[.string ByteArray.empty, .string ByteArray.empty, .int .i64 0], []⟩ 8 (by as_aux_lemma => kernel_rfl) (by as_aux_lemma => kernel_rfl) (by as_aux_lemma => kernel_rfl) (by as_aux_lemma => kernel_rfl)) ?_
  intro W base args ds gs before hval hW hcnd _
  refine law_holds (n := 16) (tb := 4) (shs := [[.str], [.str], [.int .i64]]) laid rfl (by kernel_rfl) Tryz.underlying4 ?_ ?_ ?_ ?_ hval hW
  · exact ⟨_, _, rfl, by kernel_rfl, ⟨_, _, rfl, by kernel_rfl, ⟨_, _, rfl, by kernel_rfl, rfl⟩⟩⟩
  · intro t ht
    have : t ∈ [9, 9, 3] := ht
    simp at this
    rcases this with rfl | rfl
    all_goals exact ⟨by kernel_rfl, of_decide_eq_true (by kernel_rfl)⟩
  · intro ds hl
    match ds, hl with
    | [_, _, _], _ => rfl
  · intro dss hd
    obtain ⟨d0, e0, rfl, k0, r0⟩ := hd
    obtain ⟨d1, e1, rfl, k1, r1⟩ := r0
    obtain ⟨d2, e2, rfl, k2, r2⟩ := r1
    have : e2 = [] := r2
    subst this
    obtain ⟨x0, rfl, h0⟩ := has_s _ k0
    obtain ⟨x1, rfl, h1⟩ := has_s _ k1
    obtain ⟨x2, rfl, h2⟩ := has_i _ k2
    exact c_laws_FnExactNewBucket x0 x1 x2 true (p_law x0 x1 x2 h0 h1 h2)

set_option maxRecDepth 100000 in
set_option maxHeartbeats 4000000 in
theorem over : Rows.fnExactNewBucketRow.holds Tryz.pinned (OpenSpec.ofChange Rows.fnExactNewBucketSpec) :=
  OpenClaim.holds_of_wide 3 Tryz.f3 rfl rfl rfl rfl rfl rfl rfl ⟨rfl, rfl, rfl, rfl, rfl⟩ rfl rfl rfl rfl rfl (by as_aux_lemma => kernel_rfl) Tryz.func3 closed
    (by as_aux_lemma => exact of_decide_eq_true (by kernel_rfl)) (by as_aux_lemma => (unfold Func.isWrapper; first | (rw [if_pos (by decide +kernel)]; kernel_rfl) | (rw [if_neg (by decide +kernel)]; exact ⟨rfl, rfl⟩)))
    (fun os started H enc _ => lifted os started H enc)

theorem proved : Rows.FnExactNewBucketSaid := over
#print axioms proved

end Go.Proofs.YtgemmnkhddlhpaaGreat.gen
