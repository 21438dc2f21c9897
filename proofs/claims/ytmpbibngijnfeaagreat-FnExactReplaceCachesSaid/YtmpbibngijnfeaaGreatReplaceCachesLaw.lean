/-
  For all arguments the law FnExactReplaceCaches answers true: the program's function and the reference's agree, and the arguments stay as they were. No conditions.
-/
import Derived.Test.YtmpbibngijnfeaaGreatUPk
import Derived.Test.YtmpbibngijnfeaaGreatUWlaw2
import Derived.Test.YtmpbibngijnfeaaGreatReplaceCachesCl
import Derived.Test.YtmpbibngijnfeaaGreatRows
namespace Go.Proofs.YtmpbibngijnfeaaGreat.gen
open Go Go.Sh
set_option linter.unusedVariables false
set_option linter.unusedSimpArgs false
theorem p_law (p0 : M.Bucket) (p1 : M.CacheSet) (p2 : M.Registration) (h0 : M.Bucket.ok p0) (h1 : M.CacheSet.ok p1) (h2 : M.Registration.ok p2) : m_laws_FnExactReplaceCaches p0 p1 p2 = some true := by
  unfold m_laws_FnExactReplaceCaches
  rw [M.Bucket.p_sz p0 h0 _ (by omega) (by omega), Option.bind_some]
  by_cases b0 : ((M.Bucket.sz p0 : Nat) : Int) ≤ 1048576
  rotate_left
  · rw [szOut_no b0, if_pos (by simp)]
  rw [szOut_yes b0, if_neg (by simp; omega)]
  rw [M.CacheSet.p_sz p1 h1 _ (by omega) (by omega), Option.bind_some]
  by_cases b1 : ((M.CacheSet.sz p1 : Nat) : Int) ≤ 1048576 - ((M.Bucket.sz p0 : Nat) : Int)
  rotate_left
  · rw [szOut_no b1, if_pos (by simp)]
  rw [szOut_yes b1, if_neg (by simp; omega)]
  rw [M.Registration.p_sz p2 h2 _ (by omega) (by omega), Option.bind_some]
  by_cases b2 : ((M.Registration.sz p2 : Nat) : Int) ≤ 1048576 - ((M.Bucket.sz p0 : Nat) : Int) - ((M.CacheSet.sz p1 : Nat) : Int)
  rotate_left
  · rw [szOut_no b2, if_pos (by simp)]
  rw [szOut_yes b2, if_neg (by simp; omega)]
  have zr := nWithCaches_sz p0 p1 p2
  have zc := nChg_sz p0 (nWithCaches p0 p1 p2)
  have ce0 := M.Bucket.cntsle p0
  obtain ⟨u0_0, u0_1, u0_2, u0_3, u0_4, u0_5, ma0, _⟩ := M.Bucket.p_mark p0 h0 (1) (by omega) (by unfold KB; omega)
  have ce1 := M.CacheSet.cntsle p1
  obtain ⟨u1_0, ma1, _⟩ := M.CacheSet.p_mark p1 h1 (1 + ((M.Bucket.cnts p0 : Nat) : Int)) (by omega) (by unfold KB; omega)
  have hk0 : ¬ (1 + ((M.Bucket.cnts p0 : Nat) : Int) + ((M.CacheSet.cnts p1 : Nat) : Int) < 0) := by omega
  have cr0 : M.Bucket.cnts ((nChg p0 (nWithCaches p0 p1 p2)).1) ≤ 1000000000000 := Nat.le_trans (M.Bucket.cntsle _) (by omega)
  obtain ⟨z0_0, z0_1, z0_2, z0_3, z0_4, z0_5, mr0, hr0⟩ := M.Bucket.p_mark ((nChg p0 (nWithCaches p0 p1 p2)).1) (nChg_ok h0 (nWithCaches_ok h0 h1 h2)) (1) (by omega) (by unfold KB; omega)
  have hq0 : ¬ (1 + ((M.Bucket.cnts ((nChg p0 (nWithCaches p0 p1 p2)).1) : Nat) : Int) < 0) := by omega
  simp [M.Bucket.p_to p0 h0 (by omega), M.CacheSet.p_to p1 h1 (by omega), M.Registration.p_to p2 h2 (by omega), p_spec_ReplaceCaches h0 h1 h2 (show M.Bucket.sz p0 ≤ 1048576 by omega) (show (M.CacheSet.sz p1 + M.Registration.sz p2) ≤ 536870912 by omega) (bucket_db (b := nWithCaches p0 p1 p2) (by omega)), p_impl_ReplaceCaches h0 h1 h2 (show M.Bucket.sz p0 ≤ 1048576 by omega) (show (M.CacheSet.sz p1 + M.Registration.sz p2) ≤ 536870912 by omega) (bucket_db (b := nWithCaches p0 p1 p2) (by omega)), M.Bucket.p_eq p0 h0, M.CacheSet.p_eq p1 h1, M.Registration.p_eq p2 h2, ma0, ma1, hk0, mr0, hr0, M.Bucket.p_eq ((nChg p0 (nWithCaches p0 p1 p2)).1) (nChg_ok h0 (nWithCaches_ok h0 h1 h2)), hq0]

theorem own : ownKnob Tryz.prog.godebug = none := by kernel_rfl
theorem laid : laidOutB Tryz.prog = true := cp_laid

set_option maxRecDepth 100000 in
theorem lifted (os : Os) (started : os.Started) (H : Type) (enc : TypeId × Value → H) :
    ReturnsInHanded {} Tryz.checked os 5 .any (Rows.fnExactReplaceCachesSpec.pre6 enc Tryz.prog Tryz.f5 Rows.fnExactReplaceCachesRow.domain false) (Rows.fnExactReplaceCachesSpec.post enc Tryz.prog Tryz.f5 false true false false) := by
  refine returnsInHanded_of_change (C := Tryz.checked) own started (by as_aux_lemma => kernel_rfl) Tryz.func5
    (ChangeSpec.witness6 (enc := enc) (C := Tryz.checked) false ⟨#[], #[.agg #[.string ByteArray.empty, .string ByteArray.empty, .string ByteArray.empty, .int .i64 0, .int .i64 0, .int .i64 0, .slice none 0 0, .string ByteArray.empty, .int .i64 0, .slice none 0 0, .slice none 0 0, .slice none 0 0, .int .i64 0, .string ByteArray.empty, .slice none 0 0, .int .i64 0, .int .i64 0, .int .i64 0, .int .i64 0, .slice none 0 0, .int .i64 0, .int .i64 0, .int .i64 0, .bool false], .agg #[.slice none 0 0], .agg #[.string ByteArray.empty, .int .i64 0, .int .i64 0, .int .i64 0]], []⟩ 8 (by as_aux_lemma => kernel_rfl) (by as_aux_lemma => kernel_rfl) (by as_aux_lemma => kernel_rfl) (by as_aux_lemma => kernel_rfl)) ?_
  intro W base args ds gs before hval hW hcnd _
  refine law_holds (n := 16) (tb := 4) (shs := [M.Bucket.sh, M.CacheSet.sh, M.Registration.sh]) laid rfl (by kernel_rfl) Tryz.underlying4 ?_ ?_ ?_ ?_ hval hW
  · exact ⟨_, _, rfl, by kernel_rfl, ⟨_, _, rfl, by kernel_rfl, ⟨_, _, rfl, by kernel_rfl, rfl⟩⟩⟩
  · intro t ht
    have : t ∈ [45, 26, 23] := ht
    simp at this
    rcases this with rfl | rfl | rfl
    all_goals exact ⟨by kernel_rfl, of_decide_eq_true (by kernel_rfl)⟩
  · intro ds hl
    match ds, hl with
    | [_, _, _], _ => rfl
  · intro dss hd
    obtain ⟨d0, e0, rfl, k0, r0⟩ := hd
    obtain ⟨d1, e1, rfl, k1, r1⟩ := r0
    obtain ⟨d2, e2, rfl, k2, r2⟩ := r1
    have : e2 = [] := r2
    subst this
    obtain ⟨x0, rfl, h0⟩ := M.Bucket.of_has _ k0
    obtain ⟨x1, rfl, h1⟩ := M.CacheSet.of_has _ k1
    obtain ⟨x2, rfl, h2⟩ := M.Registration.of_has _ k2
    exact c_laws_FnExactReplaceCaches x0 x1 x2 true (p_law x0 x1 x2 h0 h1 h2)

set_option maxRecDepth 100000 in
set_option maxHeartbeats 4000000 in
theorem over : Rows.fnExactReplaceCachesRow.holds Tryz.pinned (OpenSpec.ofChange Rows.fnExactReplaceCachesSpec) :=
  OpenClaim.holds_of_wide 5 Tryz.f5 rfl rfl rfl rfl rfl rfl rfl ⟨rfl, rfl, rfl, rfl, rfl⟩ rfl rfl rfl rfl rfl (by as_aux_lemma => kernel_rfl) Tryz.func5 closed
    (by as_aux_lemma => exact of_decide_eq_true (by kernel_rfl)) (by as_aux_lemma => (unfold Func.isWrapper; first | (rw [if_pos (by decide +kernel)]; kernel_rfl) | (rw [if_neg (by decide +kernel)]; exact ⟨rfl, rfl⟩)))
    (fun os started H enc _ => lifted os started H enc)

theorem proved : Rows.FnExactReplaceCachesSaid := over
#print axioms proved

end Go.Proofs.YtmpbibngijnfeaaGreat.gen
