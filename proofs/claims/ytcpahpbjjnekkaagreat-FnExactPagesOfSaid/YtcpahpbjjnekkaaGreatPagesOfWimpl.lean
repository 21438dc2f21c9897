/-
  Helper text: walks: each function's contract out of its model. No conditions beyond those of each contract.
-/
import Derived.Test.YtcpahpbjjnekkaaGreatPagesOfTi
namespace Go.Proofs.YtcpahpbjjnekkaaGreat.gen
open Go Go.Sh
set_option linter.unusedVariables false
set_option linter.unusedSimpArgs false
set_option maxRecDepth 20000 in
set_option maxHeartbeats 4000000 in
theorem c_impl_copyMachine (p0 : M.Machine) (r : M.Machine) (h : m_impl_copyMachine p0 = some r) : SCalls Tryz.prog 186 [(true, M.Machine.en p0)] [(true, [.own 248 4 (List.map M.Instr.en r.Script), .ro (.int .i64 r.Pc), .own 3 1 (List.map enI r.Regs), .ro (.int .i64 r.Steps), .ro (.bool r.Done), .ro (.bool r.Wait)])] := by
  unfold m_impl_copyMachine at h
  simp only [M.Machine.en]
  refine scalls_n (N := 16) (vars := [.cell 2 68]) Tryz.func186 rfl rfl rfl (by decide +kernel) (Nat.le_of_ble_eq_true rfl) fun base wd => ?_
  refine sq (rn ?_)
  refine an (sq (rn ?_))
  refine an (sq ?_)
  obtain ⟨x1, h2, h⟩ := bind_some h
  refine rn1 h2 ?_
  refine an (sq ?_)
  refine cu (fun s => s.t 1 = .v false [.bp 1 1 0] ∧ s.t 2 = .v false [.bp 2 1 0] ∧ s.t 3 = .v false [.bp 3 1 0] ∧ s.h 1 = (1, .box 68 [.dat (.sl (List.map M.Instr.en p0.Script)), .dat (.int .i64 p0.Pc), .dat (.sl (List.map enI p0.Regs)), .dat (.int .i64 p0.Steps), .dat (.bool p0.Done), .dat (.bool p0.Wait)]) ∧ s.h 2 = (1, .box 68 [.nil, .dat (.int .i64 0), .nil, .dat (.int .i64 0), .dat (.bool false), .dat (.bool false)]) ∧ s.h 3 = (1, .box 68 [.row 100005 2, .dat (.int .i64 p0.Pc), .dat (.sl (List.map enI p0.Regs)), .dat (.int .i64 p0.Steps), .dat (.bool p0.Done), .dat (.bool p0.Wait)]) ∧ s.h 100005 = (2, .row 248 4 (List.map M.Instr.en p0.Script) true) ∧ True) ?_
  rintro s3 ⟨f4, f5, f6, f7, f8, f9, f10, _⟩
  obtain ⟨x11, h12, h⟩ := bind_some h
  refine rn1 h12 ?_
  refine an (sq (rn ?_))
  refine an (rt ?_)
  cases h
  simp [Ret, TB, EN, *]

set_option maxRecDepth 20000 in
set_option maxHeartbeats 4000000 in
theorem c_impl_copyPage (p0 : M.Page) (r : M.Page) (h : m_impl_copyPage p0 = some r) : SCalls Tryz.prog 110 [(true, M.Page.en p0)] [(true, [.ro (.int .i64 r.Id), .ro (.str r.Site), .ro (.str r.Top), .ro (.int .i64 r.Version), .own 224 2 (List.map M.Loaded.en r.Loaded), .own 248 4 (List.map M.Instr.en r.Machine.Script), .ro (.int .i64 r.Machine.Pc), .own 3 1 (List.map enI r.Machine.Regs), .ro (.int .i64 r.Machine.Steps), .ro (.bool r.Machine.Done), .ro (.bool r.Machine.Wait)])] := by
  unfold m_impl_copyPage at h
  simp only [M.Page.en]
  refine scalls_n (N := 13) (vars := [.cell 2 70]) Tryz.func110 rfl rfl rfl (by decide +kernel) (Nat.le_of_ble_eq_true rfl) fun base wd => ?_
  refine sq (rn ?_)
  refine an (sq ?_)
  obtain ⟨x1, h2, h⟩ := bind_some h
  refine rn1 h2 ?_
  refine an (sq ?_)
  refine cu (fun s => s.t 1 = .v false [.bp 1 1 0] ∧ s.t 2 = .v false [.bp 2 1 0] ∧ s.h 1 = (1, .box 70 [.dat (.int .i64 p0.Id), .dat (.str p0.Site), .dat (.str p0.Top), .dat (.int .i64 p0.Version), .row 100003 2, .dat (.sl (List.map M.Instr.en p0.Machine.Script)), .dat (.int .i64 p0.Machine.Pc), .dat (.sl (List.map enI p0.Machine.Regs)), .dat (.int .i64 p0.Machine.Steps), .dat (.bool p0.Machine.Done), .dat (.bool p0.Machine.Wait)]) ∧ s.h 2 = (1, .box 70 [.dat (.int .i64 0), .dat (.str (⟨#[]⟩ : ByteArray)), .dat (.str (⟨#[]⟩ : ByteArray)), .dat (.int .i64 0), .nil, .nil, .dat (.int .i64 0), .nil, .dat (.int .i64 0), .dat (.bool false), .dat (.bool false)]) ∧ s.h 100003 = (2, .row 224 2 (List.map M.Loaded.en p0.Loaded) true) ∧ True) ?_
  rintro s3 ⟨f4, f5, f6, f7, f8, _⟩
  obtain ⟨x9, h10, h⟩ := bind_some h
  refine rn1 (c_impl_copyMachine _ _ h10) ?_
  refine an (sq (rn ?_))
  refine an (rt ?_)
  cases h
  simp [Ret, TB, EN, *]

set_option maxRecDepth 20000 in
set_option maxHeartbeats 4000000 in
theorem c_impl_PagesOf (p0 : M.World) (p1 : ByteArray) (p2 : ByteArray) (r : (List M.Page)) (h : m_impl_PagesOf p0 p1 p2 = some r) : SCalls Tryz.prog 41 [(true, M.World.en p0), (false, [.str p1]), (false, [.str p2])] [(false, [.own 70 11 (List.map M.Page.en r)])] := by
  unfold m_impl_PagesOf at h
  simp only [M.World.en]
  refine scalls_n (N := 35) (vars := [.tmp 6]) Tryz.func41 rfl rfl rfl (by decide +kernel) (Nat.le_of_ble_eq_true rfl) fun base wd => ?_
  refine sq (rn ?_)
  refine an (sq (rn ?_))
  refine an (sq (sq ?_))
  refine cu (fun s => s.t 1 = .v false [.dat (.str p1)] ∧ s.t 2 = .v false [.dat (.str p2)] ∧ s.t 3 = .v false [.bp 3 1 0] ∧ s.t 7 = .v false [.row 100010 1] ∧ s.h 3 = (1, .box 35 [.dat (.int .i64 p0.Now), .dat (.bool p0.Online), .dat (.int .i64 p0.Device), .dat (.sl (List.map M.Bucket.en p0.Storage.Buckets)), .dat (.sl (List.map M.Page.en p0.Pages)), .dat (.int .i64 p0.NextPage), .dat (.sl (List.map M.Lock.en p0.Locks.Locks)), .dat (.sl (List.map M.Mail.en p0.Channel.Mails)), .dat (.sl (List.map M.Site.en p0.Sites)), .dat (.sl (List.map M.Server.en p0.Servers))]) ∧ s.h 100010 = (1, .row 70 11 (List.map M.Page.en ([] : List M.Page)) true) ∧ True) ?_
  rintro s1 ⟨f2, f3, f4, f5, f6, f7, _⟩
  refine rn ?_
  refine an (bk ?_)
  refine SW_loop (fun m s => ∃ v14 : Int, ∃ r10 : List M.Page, ∃ u10 : Nat, s.t 1 = .v false [.dat (.str p1)] ∧ s.t 2 = .v false [.dat (.str p2)] ∧ s.t 7 = .v false [.row 100010 u10] ∧ s.t 12 = .v false [.dat (.sl (List.map M.Page.en p0.Pages))] ∧ s.t 13 = .v false [.dat (.int .i64 (List.length p0.Pages : Int))] ∧ s.t 14 = .v false [.dat (.int .i64 v14)] ∧ s.h 100010 = (u10, .row 70 11 (List.map M.Page.en r10) true) ∧ m_impl_PagesOf_L1 p0 p1 p2 m v14 r10 = some r) fuel ?_ ?_
  · refine ⟨0, ([] : List M.Page), 1, ?_, ?_, ?_, ?_, ?_, ?_, ?_, h⟩
    all_goals simp +decide only [F, reduceIte, Nat.reduceAdd, Bool.not_true, Bool.not_false, EN, *, -h]
  rintro mL1 s8 ⟨v14, r10, u10, f9, f10, f11, f12, f13, f14, f15, h⟩
  rcases mL1 with _ | mL1
  · exact absurd h (by simp [m_impl_PagesOf_L1])
  simp only [m_impl_PagesOf_L1] at h
  refine sq (rn ?_)
  refine an (sq ?_)
  rcases bcas (decide (v14 < (List.length p0.Pages : Int))) with b16 | b16
  · replace h := ite_f b16 h
    refine cf (xt (aft_cx (aft_ix (aft_x (an (sq (rn ?_)))))))
    refine an (rt ?_)
    cases h
    simp [Ret, TB, EN, *]
  replace h := ite_t b16 h
  refine ct (sk (an (sq (bk (sq ?_)))))
  obtain ⟨x17, h18, h⟩ := bind_some h
  obtain ⟨q19, q20, q21⟩ := idx_some h18
  refine rn ?_
  refine an (sq ?_)
  rcases bcas (x17.Site.toList == p1.toList) with b22 | b22
  · replace h := ite_f b22 h
    refine rn ?_
    refine an (cf (sk (ab (an (rn ?_)))))
    refine aft_i ⟨mL1, by omega, (IntKind.i64.wrap (v14 + 1)), r10, u10, ?_, ?_, ?_, ?_, ?_, ?_, ?_, h⟩
    all_goals simp +decide only [F, reduceIte, Nat.reduceAdd, Bool.not_true, Bool.not_false, EN, *, -h]
  replace h := ite_t b22 h
  refine rn ?_
  refine an ?_
  rcases bcas (x17.Top.toList == p2.toList) with b23 | b23
  · replace h := ite_f b23 h
    refine cf (sk (ab (an (rn ?_))))
    refine aft_i ⟨mL1, by omega, (IntKind.i64.wrap (v14 + 1)), r10, u10, ?_, ?_, ?_, ?_, ?_, ?_, ?_, h⟩
    all_goals simp +decide only [F, reduceIte, Nat.reduceAdd, Bool.not_true, Bool.not_false, EN, *, -h]
  replace h := ite_t b23 h
  refine ct ?_
  obtain ⟨x24, h25, h⟩ := bind_some h
  obtain ⟨x26, h27, h⟩ := bind_some h
  refine rn2 (c_impl_copyPage _ _ h25) h27 ?_
  refine ab (an ?_)
  refine cu (fun s => s.t 1 = .v false [.dat (.str p1)] ∧ s.t 2 = .v false [.dat (.str p2)] ∧ s.t 7 = .v false [.row 100010 (u10 + 1)] ∧ s.t 12 = .v false [.dat (.sl (List.map M.Page.en p0.Pages))] ∧ s.t 13 = .v false [.dat (.int .i64 (List.length p0.Pages : Int))] ∧ s.t 14 = .v false [.dat (.int .i64 v14)] ∧ s.h 100010 = ((u10 + 1), .row 70 11 (List.map M.Page.en (r10 ++ [x24])) true) ∧ True) ?_
  rintro s28 ⟨f29, f30, f31, f32, f33, f34, f35, _⟩
  refine rn ?_
  refine aft_i ⟨mL1, by omega, (IntKind.i64.wrap (v14 + 1)), (r10 ++ [x24]), (u10 + 1), ?_, ?_, ?_, ?_, ?_, ?_, ?_, h⟩
  all_goals simp +decide only [F, reduceIte, Nat.reduceAdd, Bool.not_true, Bool.not_false, EN, *, -h]

end Go.Proofs.YtcpahpbjjnekkaaGreat.gen
