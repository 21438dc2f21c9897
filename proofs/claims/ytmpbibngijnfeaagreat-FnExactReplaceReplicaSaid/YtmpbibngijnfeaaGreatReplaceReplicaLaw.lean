/-
  For all arguments the law FnExactReplaceReplica answers true: the program's function and the reference's agree, and the arguments stay as they were. No conditions.
-/
import Derived.Test.YtmpbibngijnfeaaGreatUPk
import Derived.Test.YtmpbibngijnfeaaGreatUWlaw1
import Derived.Test.YtmpbibngijnfeaaGreatReplaceReplicaCl
import Derived.Test.YtmpbibngijnfeaaGreatRows
namespace Go.Proofs.YtmpbibngijnfeaaGreat.gen
open Go Go.Sh
set_option linter.unusedVariables false
set_option linter.unusedSimpArgs false
theorem p_law (p0 : M.Bucket) (p1 : M.Replica) (h0 : M.Bucket.ok p0) (h1 : M.Replica.ok p1) : m_laws_FnExactReplaceReplica p0 p1 = some true := by
  unfold m_laws_FnExactReplaceReplica
  rw [M.Bucket.p_sz p0 h0 _ (by omega) (by omega), Option.bind_some]
  by_cases b0 : ((M.Bucket.sz p0 : Nat) : Int) ≤ 1048576
  rotate_left
  · rw [szOut_no b0, if_pos (by simp)]
  rw [szOut_yes b0, if_neg (by simp; omega)]
  rw [M.Replica.p_sz p1 h1 _ (by omega) (by omega), Option.bind_some]
  by_cases b1 : ((M.Replica.sz p1 : Nat) : Int) ≤ 1048576 - ((M.Bucket.sz p0 : Nat) : Int)
  rotate_left
  · rw [szOut_no b1, if_pos (by simp)]
  rw [szOut_yes b1, if_neg (by simp; omega)]
  have zr := nWithReplica_sz p0 p1
  have zc := nChg_sz p0 (nWithReplica p0 p1)
  have ce0 := M.Bucket.cntsle p0
  obtain ⟨u0_0, u0_1, u0_2, u0_3, u0_4, u0_5, ma0, _⟩ := M.Bucket.p_mark p0 h0 (1) (by omega) (by unfold KB; omega)
  have ce1 := M.Replica.cntsle p1
  obtain ⟨u1_0, u1_1, ma1, _⟩ := M.Replica.p_mark p1 h1 (1 + ((M.Bucket.cnts p0 : Nat) : Int)) (by omega) (by unfold KB; omega)
  have hk0 : ¬ (1 + ((M.Bucket.cnts p0 : Nat) : Int) + ((M.Replica.cnts p1 : Nat) : Int) < 0) := by omega
  have cr0 : M.Bucket.cnts ((nChg p0 (nWithReplica p0 p1)).1) ≤ 1000000000000 := Nat.le_trans (M.Bucket.cntsle _) (by omega)
  obtain ⟨z0_0, z0_1, z0_2, z0_3, z0_4, z0_5, mr0, hr0⟩ := M.Bucket.p_mark ((nChg p0 (nWithReplica p0 p1)).1) (nChg_ok h0 (nWithReplica_ok h0 h1)) (1) (by omega) (by unfold KB; omega)
  have hq0 : ¬ (1 + ((M.Bucket.cnts ((nChg p0 (nWithReplica p0 p1)).1) : Nat) : Int) < 0) := by omega
  simp [M.Bucket.p_to p0 h0 (by omega), M.Replica.p_to p1 h1 (by omega), p_spec_ReplaceReplica h0 h1 (show M.Bucket.sz p0 ≤ 1048576 by omega) (show M.Replica.sz p1 ≤ 536870912 by omega) (bucket_db (b := nWithReplica p0 p1) (by omega)), p_impl_ReplaceReplica h0 h1 (show M.Bucket.sz p0 ≤ 1048576 by omega) (show M.Replica.sz p1 ≤ 536870912 by omega) (bucket_db (b := nWithReplica p0 p1) (by omega)), M.Bucket.p_eq p0 h0, M.Replica.p_eq p1 h1, ma0, ma1, hk0, mr0, hr0, M.Bucket.p_eq ((nChg p0 (nWithReplica p0 p1)).1) (nChg_ok h0 (nWithReplica_ok h0 h1)), hq0]

theorem own : ownKnob Tryz.prog.godebug = none := by kernel_rfl
theorem laid : laidOutB Tryz.prog = true := cp_laid

set_option maxRecDepth 100000 in
theorem lifted (os : Os) (started : os.Started) (H : Type) (enc : TypeId × Value → H) :
    ReturnsInHanded {} Tryz.checked os 4 .any (Rows.fnExactReplaceReplicaSpec.pre6 enc Tryz.prog Tryz.f4 Rows.fnExactReplaceReplicaRow.domain false) (Rows.fnExactReplaceReplicaSpec.post enc Tryz.prog Tryz.f4 false true false false) := by
  refine returnsInHanded_of_change (C := Tryz.checked) own started (by as_aux_lemma => kernel_rfl) Tryz.func4
    (ChangeSpec.witness6 (enc := enc) (C := Tryz.checked) false ⟨#[], #[.agg #[.string ByteArray.empty, .string ByteArray.empty, .string ByteArray.empty, .int .i64 0, .int .i64 0, .int .i64 0, .slice none 0 0, .string ByteArray.empty, .int .i64 0, .slice none 0 0, .slice none 0 0, .slice none 0 0, .int .i64 0, .string ByteArray.empty, .slice none 0 0, .int .i64 0, .int .i64 0, .int .i64 0, .int .i64 0, .slice none 0 0, .int .i64 0, .int .i64 0, .int .i64 0, .bool false], .agg #[.string ByteArray.empty, .slice none 0 0, .int .i64 0, .int .i64 0, .int .i64 0, .int .i64 0, .slice none 0 0, .int .i64 0, .int .i64 0]], []⟩ 8 (by as_aux_lemma => kernel_rfl) (by as_aux_lemma => kernel_rfl) (by as_aux_lemma => kernel_rfl) (by as_aux_lemma => kernel_rfl)) ?_
  intro W base args ds gs before hval hW hcnd _
  refine law_holds (n := 16) (tb := 4) (shs := [M.Bucket.sh, M.Replica.sh]) laid rfl (by kernel_rfl) Tryz.underlying4 ?_ ?_ ?_ ?_ hval hW
  · exact ⟨_, _, rfl, by kernel_rfl, ⟨_, _, rfl, by kernel_rfl, rfl⟩⟩
  · intro t ht
    have : t ∈ [45, 43] := ht
    simp at this
    rcases this with rfl | rfl
    all_goals exact ⟨by kernel_rfl, of_decide_eq_true (by kernel_rfl)⟩
  · intro ds hl
    match ds, hl with
    | [_, _], _ => rfl
  · intro dss hd
    obtain ⟨d0, e0, rfl, k0, r0⟩ := hd
    obtain ⟨d1, e1, rfl, k1, r1⟩ := r0
    have : e1 = [] := r1
    subst this
    obtain ⟨x0, rfl, h0⟩ := M.Bucket.of_has _ k0
    obtain ⟨x1, rfl, h1⟩ := M.Replica.of_has _ k1
    exact c_laws_FnExactReplaceReplica x0 x1 true (p_law x0 x1 h0 h1)

set_option maxRecDepth 100000 in
set_option maxHeartbeats 4000000 in
theorem over : Rows.fnExactReplaceReplicaRow.holds Tryz.pinned (OpenSpec.ofChange Rows.fnExactReplaceReplicaSpec) :=
  OpenClaim.holds_of_wide 4 Tryz.f4 rfl rfl rfl rfl rfl rfl rfl ⟨rfl, rfl, rfl, rfl, rfl⟩ rfl rfl rfl rfl rfl (by as_aux_lemma => kernel_rfl) Tryz.func4 closed
    (by as_aux_lemma => exact of_decide_eq_true (by kernel_rfl)) (by as_aux_lemma => (unfold Func.isWrapper; first | (rw [if_pos (by decide +kernel)]; kernel_rfl) | (rw [if_neg (by decide +kernel)]; exact ⟨rfl, rfl⟩)))
    (fun os started H enc _ => lifted os started H enc)

theorem proved : Rows.FnExactReplaceReplicaSaid := over
#print axioms proved

end Go.Proofs.YtmpbibngijnfeaaGreat.gen
