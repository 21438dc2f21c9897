/-
  Helper text: walks: each function's contract out of its model. No conditions beyond those of each contract.
-/
import Derived.Test.YtcpahpbjjnekkaaGreatAppliedOfTi
namespace Go.Proofs.YtcpahpbjjnekkaaGreat.gen
open Go Go.Sh
set_option linter.unusedVariables false
set_option linter.unusedSimpArgs false
set_option maxRecDepth 20000 in
set_option maxHeartbeats 4000000 in
theorem c_spec_FindBucket (p0 : M.Storage) (p1 : ByteArray) (p2 : ByteArray) (r : Int) (h : m_spec_FindBucket p0 p1 p2 = some r) : SCalls Tryz.prog 73 [(true, M.Storage.en p0), (false, [.str p1]), (false, [.str p2])] [(false, [.ro (.int .i64 r)])] := by
  unfold m_spec_FindBucket at h
  simp only [M.Storage.en]
  refine scalls_n (N := 34) (vars := [.tmp 6]) Tryz.func73 rfl rfl rfl (by decide +kernel) (Nat.le_of_ble_eq_true rfl) fun base wd => ?_
  refine sq (rn ?_)
  refine an (sq (sq (rn ?_)))
  refine an (bk ?_)
  refine SW_loop (fun m s => ∃ v7 : Int, s.t 1 = .v false [.dat (.str p1)] ∧ s.t 2 = .v false [.dat (.str p2)] ∧ s.t 3 = .v false [.bp 3 1 0] ∧ s.t 7 = .v false [.dat (.int .i64 v7)] ∧ s.h 3 = (1, .box 24 [.dat (.sl (List.map M.Bucket.en p0.Buckets))]) ∧ m_spec_FindBucket_L1 p0 p1 p2 m v7 = some r) fuel ?_ ?_
  · refine ⟨0, ?_, ?_, ?_, ?_, ?_, h⟩
    all_goals simp +decide only [F, reduceIte, Nat.reduceAdd, Bool.not_true, Bool.not_false, EN, *, -h]
  rintro mL1 s1 ⟨v7, f2, f3, f4, f5, f6, h⟩
  rcases mL1 with _ | mL1
  · exact absurd h (by simp [m_spec_FindBucket_L1])
  simp only [m_spec_FindBucket_L1] at h
  refine sq (sq (rn ?_))
  refine an ?_
  rcases bcas (decide (v7 < (List.length p0.Buckets : Int))) with b7 | b7
  · replace h := ite_f b7 h
    refine cf (xt (aft_cx (aft_ix (aft_x (an (sq (rn ?_)))))))
    refine an (rt ?_)
    cases h
    simp [Ret, TB, EN, *]
  replace h := ite_t b7 h
  refine ct (sk (an (sq (bk (sq ?_)))))
  obtain ⟨x8, h9, h⟩ := bind_some h
  obtain ⟨q10, q11, q12⟩ := idx_some h9
  rcases bcas (x8.Site.toList == p1.toList) with b13 | b13
  · replace h := ite_f b13 h
    refine rn ?_
    refine an (cf (sk (ab (an (rn ?_)))))
    refine aft_i ⟨mL1, by omega, (IntKind.i64.wrap (v7 + 1)), ?_, ?_, ?_, ?_, ?_, h⟩
    all_goals simp +decide only [F, reduceIte, Nat.reduceAdd, Bool.not_true, Bool.not_false, EN, *, -h]
  replace h := ite_t b13 h
  refine rn ?_
  refine an ?_
  rcases bcase (x8.Top.toList == p2.toList) with b14 | b14
  · replace h := ite_t b14 h
    refine ct (sq (rn ?_))
    refine an (rt ?_)
    cases h
    simp [Ret, TB, EN, *]
  replace h := ite_f b14 h
  refine cf (sk (ab (an (rn ?_))))
  refine aft_i ⟨mL1, by omega, (IntKind.i64.wrap (v7 + 1)), ?_, ?_, ?_, ?_, ?_, h⟩
  all_goals simp +decide only [F, reduceIte, Nat.reduceAdd, Bool.not_true, Bool.not_false, EN, *, -h]

set_option maxRecDepth 20000 in
set_option maxHeartbeats 4000000 in
theorem c_spec_l29Names  (r : (List ByteArray)) (h : m_spec_l29Names = some r) : SCalls Tryz.prog 48 [] [(false, [.own 9 1 (List.map enS r)])] := by
  unfold m_spec_l29Names at h
  refine scalls_n (N := 2) (vars := [.tmp 0]) Tryz.func48 rfl rfl rfl (by decide +kernel) (Nat.le_of_ble_eq_true rfl) fun base wd => ?_
  refine sq (rn ?_)
  refine an (sq (rn ?_))
  refine an (rt ?_)
  cases h
  simp [Ret, TB, EN, *]

set_option maxRecDepth 20000 in
set_option maxHeartbeats 4000000 in
theorem c_spec_SiteNumber (p0 : ByteArray) (r : Int) (h : m_spec_SiteNumber p0 = some r) : SCalls Tryz.prog 100 [(false, [.str p0])] [(false, [.ro (.int .i64 r)])] := by
  unfold m_spec_SiteNumber at h
  refine scalls_n (N := 19) (vars := [.tmp 2]) Tryz.func100 rfl rfl rfl (by decide +kernel) (Nat.le_of_ble_eq_true rfl) fun base wd => ?_
  refine sq (rn ?_)
  refine an (sq ?_)
  obtain ⟨x1, h2, h⟩ := bind_some h
  refine rn1 (c_spec_l29Names _ h2) ?_
  refine an (sq (sq (rn ?_)))
  refine an (bk ?_)
  refine SW_loop (fun m s => ∃ v4 : Int, s.t 0 = .v false [.dat (.str p0)] ∧ s.t 3 = .v false [.row 100005 1] ∧ s.t 4 = .v false [.dat (.int .i64 v4)] ∧ s.h 100005 = (1, .row 9 1 (List.map enS x1) true) ∧ m_spec_SiteNumber_L1 p0 x1 m v4 = some r) fuel ?_ ?_
  · refine ⟨0, ?_, ?_, ?_, ?_, h⟩
    all_goals simp +decide only [F, reduceIte, Nat.reduceAdd, Bool.not_true, Bool.not_false, EN, *, -h]
  rintro mL1 s3 ⟨v4, f4, f5, f6, f7, h⟩
  rcases mL1 with _ | mL1
  · exact absurd h (by simp [m_spec_SiteNumber_L1])
  simp only [m_spec_SiteNumber_L1] at h
  refine sq (sq (rn ?_))
  refine an ?_
  rcases bcas (decide (v4 < (List.length x1 : Int))) with b8 | b8
  · replace h := ite_f b8 h
    refine cf (xt (aft_cx (aft_ix (aft_x (an (sq (rn ?_)))))))
    refine an (rt ?_)
    cases h
    simp [Ret, TB, EN, *]
  replace h := ite_t b8 h
  refine ct (sk (an (sq (bk (sq ?_)))))
  obtain ⟨x9, h10, h⟩ := bind_some h
  obtain ⟨q11, q12, q13⟩ := idx_some h10
  refine rn ?_
  refine an ?_
  rcases bcase (x9.toList == p0.toList) with b14 | b14
  · replace h := ite_t b14 h
    refine ct (sq (rn ?_))
    refine an (rt ?_)
    cases h
    simp [Ret, TB, EN, *]
  replace h := ite_f b14 h
  refine cf (sk (ab (an (rn ?_))))
  refine aft_i ⟨mL1, by omega, (IntKind.i64.wrap (v4 + 1)), ?_, ?_, ?_, ?_, h⟩
  all_goals simp +decide only [F, reduceIte, Nat.reduceAdd, Bool.not_true, Bool.not_false, EN, *, -h]

set_option maxRecDepth 20000 in
set_option maxHeartbeats 4000000 in
theorem c_spec_l1In (p0 : Int) (p1 : Int) (p2 : Int) (r : Bool) (h : m_spec_l1In p0 p1 p2 = some r) : SCalls Tryz.prog 47 [(false, [.int .i64 p0]), (false, [.int .i64 p1]), (false, [.int .i64 p2])] [(false, [.ro (.bool r)])] := by
  unfold m_spec_l1In at h
  refine scalls_n (N := 15) (vars := [.tmp 6]) Tryz.func47 rfl rfl rfl (by decide +kernel) (Nat.le_of_ble_eq_true rfl) fun base wd => ?_
  refine sq (rn ?_)
  refine an (sq ?_)
  rcases bcase (decide (p0 ≥ p1)) with b1 | b1
  · replace h := ite_t b1 h
    refine rn ?_
    refine an (rt ?_)
    cases h
    simp [Ret, TB, EN, *]
  replace h := ite_f b1 h
  refine rn ?_
  refine an (rt ?_)
  cases h
  simp [Ret, TB, EN, *]

set_option maxRecDepth 20000 in
set_option maxHeartbeats 4000000 in
theorem c_spec_AppliedOf (p0 : M.World) (p1 : ByteArray) (p2 : ByteArray) (r : (List M.Write)) (h : m_spec_AppliedOf p0 p1 p2 = some r) : SCalls Tryz.prog 35 [(true, M.World.en p0), (false, [.str p1]), (false, [.str p2])] [(false, [.own 176 7 (List.map M.Write.en r)])] := by
  unfold m_spec_AppliedOf at h
  simp only [M.World.en]
  refine scalls_n (N := 76) (vars := [.tmp 6]) Tryz.func35 rfl rfl rfl (by decide +kernel) (Nat.le_of_ble_eq_true rfl) fun base wd => ?_
  refine sq (rn ?_)
  refine an (sq (rn ?_))
  refine an (sq ?_)
  refine cu (fun s => s.t 1 = .v false [.dat (.str p1)] ∧ s.t 2 = .v false [.dat (.str p2)] ∧ s.t 3 = .v false [.bp 3 1 0] ∧ s.t 7 = .v false [.row 100011 1] ∧ s.h 3 = (1, .box 35 [.dat (.int .i64 p0.Now), .dat (.bool p0.Online), .dat (.int .i64 p0.Device), .dat (.sl (List.map M.Bucket.en p0.Storage.Buckets)), .dat (.sl (List.map M.Page.en p0.Pages)), .dat (.int .i64 p0.NextPage), .dat (.sl (List.map M.Lock.en p0.Locks.Locks)), .dat (.sl (List.map M.Mail.en p0.Channel.Mails)), .dat (.sl (List.map M.Site.en p0.Sites)), .dat (.sl (List.map M.Server.en p0.Servers))]) ∧ s.h 100011 = (1, .row 176 7 (List.map M.Write.en ([] : List M.Write)) true) ∧ True) ?_
  rintro s1 ⟨f2, f3, f4, f5, f6, f7, _⟩
  obtain ⟨x8, h9, h⟩ := bind_some h
  refine rn1 (c_spec_FindBucket _ _ _ _ h9) ?_
  refine an (sq ?_)
  obtain ⟨x10, h11, h⟩ := bind_some h
  refine rn1 (c_spec_SiteNumber _ _ h11) ?_
  refine an (sq (sq ?_))
  rcases bcase (decide (x8 < 0)) with b12 | b12
  · replace h := ite_t b12 h
    refine rn ?_
    refine an (ct (sq (rn ?_)))
    refine an (rt ?_)
    cases h
    simp [Ret, TB, EN, *]
  replace h := ite_f b12 h
  obtain ⟨x13, h14, h⟩ := bind_some h
  refine rn1 (c_spec_l1In _ _ _ _ h14) ?_
  refine an ?_
  rcases bcase (!x13) with b15 | b15
  · replace h := ite_t b15 h
    refine ct (sq (rn ?_))
    refine an (rt ?_)
    cases h
    simp [Ret, TB, EN, *]
  replace h := ite_f b15 h
  refine cf (sk (an (sq (sq (rn ?_)))))
  refine an (bk ?_)
  refine SW_loop (fun m s => ∃ v10 : Int, ∃ r11 : List M.Write, ∃ u11 : Nat, s.t 3 = .v false [.bp 3 1 0] ∧ s.t 7 = .v false [.row 100011 u11] ∧ s.t 8 = .v false [.dat (.int .i64 x8)] ∧ s.t 9 = .v false [.dat (.int .i64 x10)] ∧ s.t 10 = .v false [.dat (.int .i64 v10)] ∧ s.h 3 = (1, .box 35 [.dat (.int .i64 p0.Now), .dat (.bool p0.Online), .dat (.int .i64 p0.Device), .dat (.sl (List.map M.Bucket.en p0.Storage.Buckets)), .dat (.sl (List.map M.Page.en p0.Pages)), .dat (.int .i64 p0.NextPage), .dat (.sl (List.map M.Lock.en p0.Locks.Locks)), .dat (.sl (List.map M.Mail.en p0.Channel.Mails)), .dat (.sl (List.map M.Site.en p0.Sites)), .dat (.sl (List.map M.Server.en p0.Servers))]) ∧ s.h 100011 = (u11, .row 176 7 (List.map M.Write.en r11) true) ∧ m_spec_AppliedOf_L1 p0 x8 x10 m v10 r11 = some r) fuel ?_ ?_
  · refine ⟨0, ([] : List M.Write), 1, ?_, ?_, ?_, ?_, ?_, ?_, ?_, h⟩
    all_goals simp +decide only [F, reduceIte, Nat.reduceAdd, Bool.not_true, Bool.not_false, EN, *, -h]
  rintro mL1 s16 ⟨v10, r11, u11, f17, f18, f19, f20, f21, f22, f23, h⟩
  rcases mL1 with _ | mL1
  · exact absurd h (by simp [m_spec_AppliedOf_L1])
  simp only [m_spec_AppliedOf_L1] at h
  refine sq (sq ?_)
  obtain ⟨x24, h25, h⟩ := bind_some h
  obtain ⟨q26, q27, q28⟩ := idx_some h25
  refine rn ?_
  refine an ?_
  rcases bcas (decide (v10 < (List.length x24.Changes : Int))) with b29 | b29
  · replace h := ite_f b29 h
    refine cf (xt (aft_cx (aft_ix (aft_x (an (sq (rn ?_)))))))
    refine an (rt ?_)
    cases h
    simp [Ret, TB, EN, *]
  replace h := ite_t b29 h
  refine ct (sk (an (sq (bk (sq ?_)))))
  obtain ⟨x30, h31, h⟩ := bind_some h
  obtain ⟨q32, q33, q34⟩ := idx_some h31
  obtain ⟨x35, h36, h⟩ := bind_some h
  obtain ⟨q37, q38, q39⟩ := idx_some h36
  refine rd mixed ?_
  refine an ?_
  rcases bcas (x30.Device == x35.Replica.Sync.Outbox.Device) with b40 | b40
  · replace h := ite_f b40 h
    refine cf (sk (ab (an (rn ?_))))
    refine aft_i ⟨mL1, by omega, (IntKind.i64.wrap (v10 + 1)), r11, u11, ?_, ?_, ?_, ?_, ?_, ?_, ?_, h⟩
    all_goals simp +decide only [F, reduceIte, Nat.reduceAdd, Bool.not_true, Bool.not_false, EN, *, -h]
  replace h := ite_t b40 h
  refine ct ?_
  obtain ⟨x41, h42, h⟩ := bind_some h
  refine rn1 h42 ?_
  refine ab (an ?_)
  refine cu (fun s => s.t 3 = .v false [.bp 3 1 0] ∧ s.t 7 = .v false [.row 100011 (u11 + 1)] ∧ s.t 8 = .v false [.dat (.int .i64 x8)] ∧ s.t 9 = .v false [.dat (.int .i64 x10)] ∧ s.t 10 = .v false [.dat (.int .i64 v10)] ∧ s.h 3 = (1, .box 35 [.dat (.int .i64 p0.Now), .dat (.bool p0.Online), .dat (.int .i64 p0.Device), .dat (.sl (List.map M.Bucket.en p0.Storage.Buckets)), .dat (.sl (List.map M.Page.en p0.Pages)), .dat (.int .i64 p0.NextPage), .dat (.sl (List.map M.Lock.en p0.Locks.Locks)), .dat (.sl (List.map M.Mail.en p0.Channel.Mails)), .dat (.sl (List.map M.Site.en p0.Sites)), .dat (.sl (List.map M.Server.en p0.Servers))]) ∧ s.h 100011 = ((u11 + 1), .row 176 7 (List.map M.Write.en (r11 ++ [x30])) true) ∧ True) ?_
  rintro s43 ⟨f44, f45, f46, f47, f48, f49, f50, _⟩
  refine rn ?_
  refine aft_i ⟨mL1, by omega, (IntKind.i64.wrap (v10 + 1)), (r11 ++ [x30]), (u11 + 1), ?_, ?_, ?_, ?_, ?_, ?_, ?_, h⟩
  all_goals simp +decide only [F, reduceIte, Nat.reduceAdd, Bool.not_true, Bool.not_false, EN, *, -h]

end Go.Proofs.YtcpahpbjjnekkaaGreat.gen
