/-
  Helper text: walks: each function's contract out of its model. No conditions beyond those of each contract.
-/
import Derived.Test.YtcpahpbjjnekkaaGreatIsWorldTi
import Derived.Test.YtcpahpbjjnekkaaGreatIsWorldWimpl0
import Derived.Test.YtcpahpbjjnekkaaGreatIsWorldWimpl1
import Derived.Test.YtcpahpbjjnekkaaGreatIsWorldWimpl2
import Derived.Test.YtcpahpbjjnekkaaGreatIsWorldWimpl3
namespace Go.Proofs.YtcpahpbjjnekkaaGreat.gen
open Go Go.Sh
set_option linter.unusedVariables false
set_option linter.unusedSimpArgs false
set_option maxRecDepth 20000 in
set_option maxHeartbeats 4000000 in
theorem c_impl_IsServer (p0 : M.Server) (r : Bool) (h : m_impl_IsServer p0 = some r) : SCalls Tryz.prog 125 [(true, M.Server.en p0)] [(false, [.ro (.bool r)])] := by
  unfold m_impl_IsServer at h
  simp only [M.Server.en]
  refine scalls_n (N := 68) (vars := [.tmp 2]) Tryz.func125 rfl rfl rfl (by decide +kernel) (Nat.le_of_ble_eq_true rfl) fun base wd => ?_
  refine sq (rn ?_)
  refine an (sq (sq (rn ?_)))
  refine an (bk ?_)
  refine SW_loop (fun m s => ∃ v10 : Int, s.t 1 = .v false [.bp 1 1 0] ∧ s.t 8 = .v false [.dat (.sl (List.map M.Applied.en p0.Applied))] ∧ s.t 9 = .v false [.dat (.int .i64 (List.length p0.Applied : Int))] ∧ s.t 10 = .v false [.dat (.int .i64 v10)] ∧ s.h 1 = (1, .box 102 [.dat (.str p0.Store.Name), .dat (.sl (List.map M.Item.en p0.Store.Items)), .dat (.int .i64 p0.Store.Auto), .dat (.sl (List.map M.Applied.en p0.Applied)), .dat (.sl (List.map M.Write.en p0.Changes))]) ∧ m_impl_IsServer_L1 p0 m v10 = some r) fuel ?_ ?_
  · refine ⟨0, ?_, ?_, ?_, ?_, ?_, h⟩
    all_goals simp +decide only [F, reduceIte, Nat.reduceAdd, Bool.not_true, Bool.not_false, EN, *, -h]
  rintro mL1 s1 ⟨v10, f2, f3, f4, f5, f6, h⟩
  rcases mL1 with _ | mL1
  · exact absurd h (by simp [m_impl_IsServer_L1])
  simp only [m_impl_IsServer_L1] at h
  refine sq (rn ?_)
  refine an (sq ?_)
  rcases bcase (decide (v10 < (List.length p0.Applied : Int))) with b7 | b7
  · replace h := ite_t b7 h
    refine ct (sk (an (sq (bk (sq ?_)))))
    obtain ⟨x8, h9, h⟩ := bind_some h
    obtain ⟨q10, q11, q12⟩ := idx_some h9
    refine rn ?_
    refine an (sq ?_)
    obtain ⟨x13, h14, h⟩ := bind_some h
    rcases bcase (!x13) with b15 | b15
    · replace h := ite_t b15 h
      refine rd1 mixed (c_impl_InRange _ _ _ _ h14) ?_
      refine an (ct (sq (rn ?_)))
      refine an (rt ?_)
      cases h
      simp [Ret, TB, EN, *]
    replace h := ite_f b15 h
    obtain ⟨x16, h17, h⟩ := bind_some h
    rcases bcase (!x16) with b18 | b18
    · replace h := ite_t b18 h
      refine rd2 mixed (c_impl_InRange _ _ _ _ h14) (c_impl_InRange _ _ _ _ h17) ?_
      refine an (ct (sq (rn ?_)))
      refine an (rt ?_)
      cases h
      simp [Ret, TB, EN, *]
    replace h := ite_f b18 h
    rcases bcas (decide (v10 > 0)) with b19 | b19
    · replace h := ite_f b19 h
      refine rd2 mixed (c_impl_InRange _ _ _ _ h14) (c_impl_InRange _ _ _ _ h17) ?_
      refine an (cf (sk (ab (an (rn ?_)))))
      refine aft_i ⟨mL1, by omega, (IntKind.i64.wrap (v10 + 1)), ?_, ?_, ?_, ?_, ?_, h⟩
      all_goals simp +decide only [F, reduceIte, Nat.reduceAdd, Bool.not_true, Bool.not_false, EN, *, -h]
    replace h := ite_t b19 h
    obtain ⟨x20, h21, h⟩ := bind_some h
    obtain ⟨q22, q23, q24⟩ := idx_some h21
    refine rd2 mixed (c_impl_InRange _ _ _ _ h14) (c_impl_InRange _ _ _ _ h17) ?_
    refine an ?_
    rcases bcase (decide (x8.Device ≤ x20.Device)) with b25 | b25
    · replace h := ite_t b25 h
      refine ct (sq (rn ?_))
      refine an (rt ?_)
      cases h
      simp [Ret, TB, EN, *]
    replace h := ite_f b25 h
    refine cf (sk (ab (an (rn ?_))))
    refine aft_i ⟨mL1, by omega, (IntKind.i64.wrap (v10 + 1)), ?_, ?_, ?_, ?_, ?_, h⟩
    all_goals simp +decide only [F, reduceIte, Nat.reduceAdd, Bool.not_true, Bool.not_false, EN, *, -h]
  replace h := ite_f b7 h
  refine cf (xt (aft_cx (aft_ix (aft_x (an (sq (sq (rn ?_))))))))
  refine an (bk ?_)
  refine SW_loop (fun m s => ∃ v45 : Int, s.t 1 = .v false [.bp 1 1 0] ∧ s.t 43 = .v false [.dat (.sl (List.map M.Write.en p0.Changes))] ∧ s.t 44 = .v false [.dat (.int .i64 (List.length p0.Changes : Int))] ∧ s.t 45 = .v false [.dat (.int .i64 v45)] ∧ s.h 1 = (1, .box 102 [.dat (.str p0.Store.Name), .dat (.sl (List.map M.Item.en p0.Store.Items)), .dat (.int .i64 p0.Store.Auto), .dat (.sl (List.map M.Applied.en p0.Applied)), .dat (.sl (List.map M.Write.en p0.Changes))]) ∧ m_impl_IsServer_L2 p0 m v45 = some r) fuel ?_ ?_
  · refine ⟨0, ?_, ?_, ?_, ?_, ?_, h⟩
    all_goals simp +decide only [F, reduceIte, Nat.reduceAdd, Bool.not_true, Bool.not_false, EN, *, -h]
  rintro mL2 s26 ⟨v45, f27, f28, f29, f30, f31, h⟩
  rcases mL2 with _ | mL2
  · exact absurd h (by simp [m_impl_IsServer_L2])
  simp only [m_impl_IsServer_L2] at h
  refine sq (rn ?_)
  refine an (sq ?_)
  rcases bcas (decide (v45 < (List.length p0.Changes : Int))) with b32 | b32
  · replace h := ite_f b32 h
    refine cf (xt (aft_cx (aft_ix (aft_x (an (sq ?_))))))
    obtain ⟨x41, h42, h⟩ := bind_some h
    rcases bcas x41 with b43 | b43
    · replace h := ite_f b43 h
      refine rn1 (c_impl_IsStore _ _ h42) ?_
      refine an (rt ?_)
      cases h
      simp [Ret, TB, EN, *]
    replace h := ite_t b43 h
    rcases bcase (p0.Store.Name.toList == (⟨#[110, 111, 116, 101, 115]⟩ : ByteArray).toList) with b44 | b44
    · replace h := ite_t b44 h
      refine rn1 (c_impl_IsStore _ _ h42) ?_
      refine an (rt ?_)
      cases h
      simp [Ret, TB, EN, *]
    replace h := ite_f b44 h
    refine rn1 (c_impl_IsStore _ _ h42) ?_
    refine an (rt ?_)
    cases h
    simp [Ret, TB, EN, *]
  replace h := ite_t b32 h
  refine ct (sk (an (sq (bk (sq ?_)))))
  obtain ⟨x33, h34, h⟩ := bind_some h
  obtain ⟨q35, q36, q37⟩ := idx_some h34
  refine rn ?_
  refine an (sq ?_)
  obtain ⟨x38, h39, h⟩ := bind_some h
  refine rn1 (c_impl_IsQueuedWrite _ _ h39) ?_
  refine an ?_
  rcases bcase (!x38) with b40 | b40
  · replace h := ite_t b40 h
    refine ct (sq (rn ?_))
    refine an (rt ?_)
    cases h
    simp [Ret, TB, EN, *]
  replace h := ite_f b40 h
  refine cf (sk (ab (an (rn ?_))))
  refine aft_i ⟨mL2, by omega, (IntKind.i64.wrap (v45 + 1)), ?_, ?_, ?_, ?_, ?_, h⟩
  all_goals simp +decide only [F, reduceIte, Nat.reduceAdd, Bool.not_true, Bool.not_false, EN, *, -h]

set_option maxRecDepth 20000 in
set_option maxHeartbeats 4000000 in
theorem c_impl_IsWorld (p0 : M.World) (r : Bool) (h : m_impl_IsWorld p0 = some r) : SCalls Tryz.prog 46 [(true, M.World.en p0)] [(false, [.ro (.bool r)])] := by
  unfold m_impl_IsWorld at h
  simp only [M.World.en]
  refine scalls_n (N := 126) (vars := [.tmp 2]) Tryz.func46 rfl rfl rfl (by decide +kernel) (Nat.le_of_ble_eq_true rfl) fun base wd => ?_
  refine sq (rn ?_)
  refine an (sq (sq ?_))
  obtain ⟨x1, h2, h⟩ := bind_some h
  rcases bcase (!x1) with b3 | b3
  · replace h := ite_t b3 h
    refine rn1 (c_impl_InRange _ _ _ _ h2) ?_
    refine an (ct (sq (rn ?_)))
    refine an (rt ?_)
    cases h
    simp [Ret, TB, EN, *]
  replace h := ite_f b3 h
  obtain ⟨x4, h5, h⟩ := bind_some h
  rcases bcase (!x4) with b6 | b6
  · replace h := ite_t b6 h
    refine rn2 (c_impl_InRange _ _ _ _ h2) (c_impl_InRange _ _ _ _ h5) ?_
    refine an (ct (sq (rn ?_)))
    refine an (rt ?_)
    cases h
    simp [Ret, TB, EN, *]
  replace h := ite_f b6 h
  obtain ⟨x7, h8, h⟩ := bind_some h
  rcases bcase (!x7) with b9 | b9
  · replace h := ite_t b9 h
    refine rn3 (c_impl_InRange _ _ _ _ h2) (c_impl_InRange _ _ _ _ h5) (c_impl_IsStorage _ _ h8) ?_
    refine an (ct (sq (rn ?_)))
    refine an (rt ?_)
    cases h
    simp [Ret, TB, EN, *]
  replace h := ite_f b9 h
  rcases bcase (decide ((List.length p0.Pages : Int) > 6)) with b10 | b10
  · replace h := ite_t b10 h
    refine rn3 (c_impl_InRange _ _ _ _ h2) (c_impl_InRange _ _ _ _ h5) (c_impl_IsStorage _ _ h8) ?_
    refine an (ct (sq (rn ?_)))
    refine an (rt ?_)
    cases h
    simp [Ret, TB, EN, *]
  replace h := ite_f b10 h
  obtain ⟨x11, h12, h⟩ := bind_some h
  rcases bcase (!x11) with b13 | b13
  · replace h := ite_t b13 h
    refine rn4 (c_impl_InRange _ _ _ _ h2) (c_impl_InRange _ _ _ _ h5) (c_impl_IsStorage _ _ h8) (c_impl_InRange _ _ _ _ h12) ?_
    refine an (ct (sq (rn ?_)))
    refine an (rt ?_)
    cases h
    simp [Ret, TB, EN, *]
  replace h := ite_f b13 h
  obtain ⟨x14, h15, h⟩ := bind_some h
  rcases bcase (!x14) with b16 | b16
  · replace h := ite_t b16 h
    refine rn5 (c_impl_InRange _ _ _ _ h2) (c_impl_InRange _ _ _ _ h5) (c_impl_IsStorage _ _ h8) (c_impl_InRange _ _ _ _ h12) (c_impl_IsLockTable _ _ h15) ?_
    refine an (ct (sq (rn ?_)))
    refine an (rt ?_)
    cases h
    simp [Ret, TB, EN, *]
  replace h := ite_f b16 h
  rcases bcase ((List.length p0.Sites : Int) != 3) with b17 | b17
  · replace h := ite_t b17 h
    refine rn5 (c_impl_InRange _ _ _ _ h2) (c_impl_InRange _ _ _ _ h5) (c_impl_IsStorage _ _ h8) (c_impl_InRange _ _ _ _ h12) (c_impl_IsLockTable _ _ h15) ?_
    refine an (ct (sq (rn ?_)))
    refine an (rt ?_)
    cases h
    simp [Ret, TB, EN, *]
  replace h := ite_f b17 h
  refine rn5 (c_impl_InRange _ _ _ _ h2) (c_impl_InRange _ _ _ _ h5) (c_impl_IsStorage _ _ h8) (c_impl_InRange _ _ _ _ h12) (c_impl_IsLockTable _ _ h15) ?_
  refine an ?_
  rcases bcase ((List.length p0.Servers : Int) != 3) with b18 | b18
  · replace h := ite_t b18 h
    refine ct (sq (rn ?_))
    refine an (rt ?_)
    cases h
    simp [Ret, TB, EN, *]
  replace h := ite_f b18 h
  refine cf (sk (an (sq (sq (rn ?_)))))
  refine an (bk ?_)
  refine SW_loop (fun m s => ∃ v56 : Int, s.t 1 = .v false [.bp 1 1 0] ∧ s.t 54 = .v false [.dat (.sl (List.map M.Page.en p0.Pages))] ∧ s.t 55 = .v false [.dat (.int .i64 (List.length p0.Pages : Int))] ∧ s.t 56 = .v false [.dat (.int .i64 v56)] ∧ s.h 1 = (1, .box 35 [.dat (.int .i64 p0.Now), .dat (.bool p0.Online), .dat (.int .i64 p0.Device), .dat (.sl (List.map M.Bucket.en p0.Storage.Buckets)), .dat (.sl (List.map M.Page.en p0.Pages)), .dat (.int .i64 p0.NextPage), .dat (.sl (List.map M.Lock.en p0.Locks.Locks)), .dat (.sl (List.map M.Mail.en p0.Channel.Mails)), .dat (.sl (List.map M.Site.en p0.Sites)), .dat (.sl (List.map M.Server.en p0.Servers))]) ∧ m_impl_IsWorld_L1 p0 m v56 = some r) fuel ?_ ?_
  · refine ⟨0, ?_, ?_, ?_, ?_, ?_, h⟩
    all_goals simp +decide only [F, reduceIte, Nat.reduceAdd, Bool.not_true, Bool.not_false, EN, *, -h]
  rintro mL1 s19 ⟨v56, f20, f21, f22, f23, f24, h⟩
  rcases mL1 with _ | mL1
  · exact absurd h (by simp [m_impl_IsWorld_L1])
  simp only [m_impl_IsWorld_L1] at h
  refine sq (rn ?_)
  refine an (sq ?_)
  rcases bcase (decide (v56 < (List.length p0.Pages : Int))) with b25 | b25
  · replace h := ite_t b25 h
    refine ct (sk (an (sq (bk (sq ?_)))))
    obtain ⟨x26, h27, h⟩ := bind_some h
    obtain ⟨q28, q29, q30⟩ := idx_some h27
    refine rn ?_
    refine an (sq ?_)
    obtain ⟨x31, h32, h⟩ := bind_some h
    rcases bcase (!x31) with b33 | b33
    · replace h := ite_t b33 h
      refine rd1 mixed (c_impl_IsPage _ _ h32) ?_
      refine an (ct (sq (rn ?_)))
      refine an (rt ?_)
      cases h
      simp [Ret, TB, EN, *]
    replace h := ite_f b33 h
    rcases bcase (decide (x26.Id ≥ p0.NextPage)) with b34 | b34
    · replace h := ite_t b34 h
      refine rd1 mixed (c_impl_IsPage _ _ h32) ?_
      refine an (ct (sq (rn ?_)))
      refine an (rt ?_)
      cases h
      simp [Ret, TB, EN, *]
    replace h := ite_f b34 h
    rcases bcas (decide (v56 > 0)) with b35 | b35
    · replace h := ite_f b35 h
      obtain ⟨x45, h46, h⟩ := bind_some h
      refine rd2 mixed (c_impl_IsPage _ _ h32) (c_impl_FindBucket _ _ _ _ h46) ?_
      refine an ?_
      rcases bcase (decide (x45 < 0)) with b47 | b47
      · replace h := ite_t b47 h
        refine ct (sq (rn ?_))
        refine an (rt ?_)
        cases h
        simp [Ret, TB, EN, *]
      replace h := ite_f b47 h
      refine cf (sk (ab (an (rn ?_))))
      refine aft_i ⟨mL1, by omega, (IntKind.i64.wrap (v56 + 1)), ?_, ?_, ?_, ?_, ?_, h⟩
      all_goals simp +decide only [F, reduceIte, Nat.reduceAdd, Bool.not_true, Bool.not_false, EN, *, -h]
    replace h := ite_t b35 h
    obtain ⟨x36, h37, h⟩ := bind_some h
    obtain ⟨q38, q39, q40⟩ := idx_some h37
    rcases bcase (decide (x26.Id ≤ x36.Id)) with b41 | b41
    · replace h := ite_t b41 h
      refine rd1 mixed (c_impl_IsPage _ _ h32) ?_
      refine an (ct (sq (rn ?_)))
      refine an (rt ?_)
      cases h
      simp [Ret, TB, EN, *]
    replace h := ite_f b41 h
    obtain ⟨x42, h43, h⟩ := bind_some h
    refine rd2 mixed (c_impl_IsPage _ _ h32) (c_impl_FindBucket _ _ _ _ h43) ?_
    refine an ?_
    rcases bcase (decide (x42 < 0)) with b44 | b44
    · replace h := ite_t b44 h
      refine ct (sq (rn ?_))
      refine an (rt ?_)
      cases h
      simp [Ret, TB, EN, *]
    replace h := ite_f b44 h
    refine cf (sk (ab (an (rn ?_))))
    refine aft_i ⟨mL1, by omega, (IntKind.i64.wrap (v56 + 1)), ?_, ?_, ?_, ?_, ?_, h⟩
    all_goals simp +decide only [F, reduceIte, Nat.reduceAdd, Bool.not_true, Bool.not_false, EN, *, -h]
  replace h := ite_f b25 h
  refine cf (xt (aft_cx (aft_ix (aft_x (an (sq (sq (rn ?_))))))))
  refine an (bk ?_)
  refine SW_loop (fun m s => ∃ v101 : Int, s.t 1 = .v false [.bp 1 1 0] ∧ s.t 99 = .v false [.dat (.sl (List.map M.Site.en p0.Sites))] ∧ s.t 100 = .v false [.dat (.int .i64 (List.length p0.Sites : Int))] ∧ s.t 101 = .v false [.dat (.int .i64 v101)] ∧ s.h 1 = (1, .box 35 [.dat (.int .i64 p0.Now), .dat (.bool p0.Online), .dat (.int .i64 p0.Device), .dat (.sl (List.map M.Bucket.en p0.Storage.Buckets)), .dat (.sl (List.map M.Page.en p0.Pages)), .dat (.int .i64 p0.NextPage), .dat (.sl (List.map M.Lock.en p0.Locks.Locks)), .dat (.sl (List.map M.Mail.en p0.Channel.Mails)), .dat (.sl (List.map M.Site.en p0.Sites)), .dat (.sl (List.map M.Server.en p0.Servers))]) ∧ m_impl_IsWorld_L2 p0 m v101 = some r) fuel ?_ ?_
  · refine ⟨0, ?_, ?_, ?_, ?_, ?_, h⟩
    all_goals simp +decide only [F, reduceIte, Nat.reduceAdd, Bool.not_true, Bool.not_false, EN, *, -h]
  rintro mL2 s48 ⟨v101, f49, f50, f51, f52, f53, h⟩
  rcases mL2 with _ | mL2
  · exact absurd h (by simp [m_impl_IsWorld_L2])
  simp only [m_impl_IsWorld_L2] at h
  refine sq (rn ?_)
  refine an (sq ?_)
  rcases bcas (decide (v101 < (List.length p0.Sites : Int))) with b54 | b54
  · replace h := ite_f b54 h
    refine cf (xt (aft_cx (aft_ix (aft_x (an (sq (rn ?_)))))))
    refine an (rt ?_)
    cases h
    simp [Ret, TB, EN, *]
  replace h := ite_t b54 h
  refine ct (sk (an (sq (bk (sq ?_)))))
  obtain ⟨x55, h56, h⟩ := bind_some h
  obtain ⟨q57, q58, q59⟩ := idx_some h56
  refine rn ?_
  refine an (sq ?_)
  obtain ⟨x60, h61, h⟩ := bind_some h
  rcases bcase (!x60) with b62 | b62
  · replace h := ite_t b62 h
    refine rn1 (c_impl_IsSite _ _ h61) ?_
    refine an (ct (sq (rn ?_)))
    refine an (rt ?_)
    cases h
    simp [Ret, TB, EN, *]
  replace h := ite_f b62 h
  obtain ⟨x63, h64, h⟩ := bind_some h
  rcases bcase (x63 != v101) with b65 | b65
  · replace h := ite_t b65 h
    refine rn2 (c_impl_IsSite _ _ h61) (c_impl_SiteNumber _ _ h64) ?_
    refine an (ct (sq (rn ?_)))
    refine an (rt ?_)
    cases h
    simp [Ret, TB, EN, *]
  replace h := ite_f b65 h
  obtain ⟨x66, h67, h⟩ := bind_some h
  obtain ⟨q68, q69, q70⟩ := idx_some h67
  obtain ⟨x71, h72, h⟩ := bind_some h
  refine rn3 (c_impl_IsSite _ _ h61) (c_impl_SiteNumber _ _ h64) (c_impl_IsServer _ _ h72) ?_
  refine an ?_
  rcases bcase (!x71) with b73 | b73
  · replace h := ite_t b73 h
    refine ct (sq (rn ?_))
    refine an (rt ?_)
    cases h
    simp [Ret, TB, EN, *]
  replace h := ite_f b73 h
  refine cf (sk (ab (an (rn ?_))))
  refine aft_i ⟨mL2, by omega, (IntKind.i64.wrap (v101 + 1)), ?_, ?_, ?_, ?_, ?_, h⟩
  all_goals simp +decide only [F, reduceIte, Nat.reduceAdd, Bool.not_true, Bool.not_false, EN, *, -h]

end Go.Proofs.YtcpahpbjjnekkaaGreat.gen
