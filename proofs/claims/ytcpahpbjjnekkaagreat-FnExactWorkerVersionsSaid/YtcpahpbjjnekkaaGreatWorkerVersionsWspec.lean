/-
  Helper text: walks: each function's contract out of its model. No conditions beyond those of each contract.
-/
import Derived.Test.YtcpahpbjjnekkaaGreatWorkerVersionsTi
namespace Go.Proofs.YtcpahpbjjnekkaaGreat.gen
open Go Go.Sh
set_option linter.unusedVariables false
set_option linter.unusedSimpArgs false
set_option maxRecDepth 20000 in
set_option maxHeartbeats 4000000 in
theorem c_spec_FindBucket (p0 : M.Storage) (p1 : ByteArray) (p2 : ByteArray) (r : Int) (h : m_spec_FindBucket p0 p1 p2 = some r) : SCalls Tryz.prog 73 [(true, M.Storage.en p0), (false, [.str p1]), (false, [.str p2])] [(false, [.ro (.int .i64 r)])] := by
  unfold m_spec_FindBucket at h
  simp only [M.Storage.en]
  refine scalls_n (N := 34) (vars := [.tmp 6]) Tryz.func73 rfl rfl rfl (by decide +kernel) (Nat.le_of_ble_eq_true rfl) fun base wd => ?_
  refine sq (rn ?_)
  refine an (sq (sq (rn ?_)))
  refine an (bk ?_)
  refine SW_loop (fun m s => ∃ v7 : Int, s.t 1 = .v false [.dat (.str p1)] ∧ s.t 2 = .v false [.dat (.str p2)] ∧ s.t 3 = .v false [.bp 3 1 0] ∧ s.t 7 = .v false [.dat (.int .i64 v7)] ∧ s.h 3 = (1, .box 24 [.dat (.sl (List.map M.Bucket.en p0.Buckets))]) ∧ m_spec_FindBucket_L1 p0 p1 p2 m v7 = some r) fuel ?_ ?_
  · refine ⟨0, ?_, ?_, ?_, ?_, ?_, h⟩
    all_goals simp +decide only [F, reduceIte, Nat.reduceAdd, Bool.not_true, Bool.not_false, EN, *, -h]
  rintro mL1 s1 ⟨v7, f2, f3, f4, f5, f6, h⟩
  rcases mL1 with _ | mL1
  · exact absurd h (by simp [m_spec_FindBucket_L1])
  simp only [m_spec_FindBucket_L1] at h
  refine sq (sq (rn ?_))
  refine an ?_
  rcases bcas (decide (v7 < (List.length p0.Buckets : Int))) with b7 | b7
  · replace h := ite_f b7 h
    refine cf (xt (aft_cx (aft_ix (aft_x (an (sq (rn ?_)))))))
    refine an (rt ?_)
    cases h
    simp [Ret, TB, EN, *]
  replace h := ite_t b7 h
  refine ct (sk (an (sq (bk (sq ?_)))))
  obtain ⟨x8, h9, h⟩ := bind_some h
  obtain ⟨q10, q11, q12⟩ := idx_some h9
  rcases bcas (x8.Site.toList == p1.toList) with b13 | b13
  · replace h := ite_f b13 h
    refine rn ?_
    refine an (cf (sk (ab (an (rn ?_)))))
    refine aft_i ⟨mL1, by omega, (IntKind.i64.wrap (v7 + 1)), ?_, ?_, ?_, ?_, ?_, h⟩
    all_goals simp +decide only [F, reduceIte, Nat.reduceAdd, Bool.not_true, Bool.not_false, EN, *, -h]
  replace h := ite_t b13 h
  refine rn ?_
  refine an ?_
  rcases bcase (x8.Top.toList == p2.toList) with b14 | b14
  · replace h := ite_t b14 h
    refine ct (sq (rn ?_))
    refine an (rt ?_)
    cases h
    simp [Ret, TB, EN, *]
  replace h := ite_f b14 h
  refine cf (sk (ab (an (rn ?_))))
  refine aft_i ⟨mL1, by omega, (IntKind.i64.wrap (v7 + 1)), ?_, ?_, ?_, ?_, ?_, h⟩
  all_goals simp +decide only [F, reduceIte, Nat.reduceAdd, Bool.not_true, Bool.not_false, EN, *, -h]

set_option maxRecDepth 20000 in
set_option maxHeartbeats 4000000 in
theorem c_spec_WorkerVersions (p0 : M.World) (p1 : ByteArray) (p2 : ByteArray) (r : (List Int)) (h : m_spec_WorkerVersions p0 p1 p2 = some r) : SCalls Tryz.prog 25 [(true, M.World.en p0), (false, [.str p1]), (false, [.str p2])] [(false, [.own 3 1 (List.map enI r)])] := by
  unfold m_spec_WorkerVersions at h
  simp only [M.World.en]
  refine scalls_n (N := 31) (vars := [.tmp 6]) Tryz.func25 rfl rfl rfl (by decide +kernel) (Nat.le_of_ble_eq_true rfl) fun base wd => ?_
  refine sq (rn ?_)
  refine an (sq ?_)
  obtain ⟨x1, h2, h⟩ := bind_some h
  refine rn1 (c_spec_FindBucket _ _ _ _ h2) ?_
  refine an (sq (sq (rn ?_)))
  refine an ?_
  rcases bcase (decide (x1 < 0)) with b3 | b3
  · replace h := ite_t b3 h
    refine ct (sq (rn ?_))
    refine an (rt ?_)
    cases h
    simp [Ret, TB, EN, *]
  replace h := ite_f b3 h
  refine cf (sk (an (sq ?_)))
  obtain ⟨x4, h5, h⟩ := bind_some h
  obtain ⟨q6, q7, q8⟩ := idx_some h5
  refine rn ?_
  refine an (sq (rn ?_))
  refine an (rt ?_)
  cases h
  simp [Ret, TB, EN, *]

end Go.Proofs.YtcpahpbjjnekkaaGreat.gen
