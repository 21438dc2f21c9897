/-
  Helper text: walks: each function's contract out of its model. No conditions beyond those of each contract.
-/
import Derived.Test.YtgemmnkhddlhpaaGreatEqualWorldsTi
import Derived.Test.YtgemmnkhddlhpaaGreatEqualWorldsWspec0
namespace Go.Proofs.YtgemmnkhddlhpaaGreat.gen
open Go Go.Sh
set_option linter.unusedVariables false
set_option linter.unusedSimpArgs false
set_option maxRecDepth 20000 in
set_option maxHeartbeats 4000000 in
theorem c_spec_EqualStorages (p0 : M.Storage) (p1 : M.Storage) (r : Bool) (h : m_spec_EqualStorages p0 p1 = some r) : SCalls Tryz.prog 68 [(true, M.Storage.en p0), (true, M.Storage.en p1)] [(false, [.ro (.bool r)])] := by
  unfold m_spec_EqualStorages at h
  simp only [M.Storage.en]
  refine scalls_n (N := 32) (vars := [.tmp 4]) Tryz.func68 rfl rfl rfl (by decide +kernel) (Nat.le_of_ble_eq_true rfl) fun base wd => ?_
  refine sq (rn ?_)
  refine an (sq (sq (rn ?_)))
  refine an ?_
  rcases bcase ((List.length p0.Buckets : Int) != (List.length p1.Buckets : Int)) with b1 | b1
  · replace h := ite_t b1 h
    refine ct (sq (rn ?_))
    refine an (rt ?_)
    cases h
    simp [Ret, TB, EN, *]
  replace h := ite_f b1 h
  refine cf (sk (an (sq (sq (rn ?_)))))
  refine an (bk ?_)
  refine SW_loop (fun m s => ∃ v5 : Int, s.t 2 = .v false [.bp 2 1 0] ∧ s.t 3 = .v false [.bp 3 1 0] ∧ s.t 5 = .v false [.dat (.int .i64 v5)] ∧ s.h 2 = (1, .box 69 [.dat (.sl (List.map M.Bucket.en p0.Buckets))]) ∧ s.h 3 = (1, .box 69 [.dat (.sl (List.map M.Bucket.en p1.Buckets))]) ∧ m_spec_EqualStorages_L1 p0 p1 m v5 = some r) fuel ?_ ?_
  · refine ⟨0, ?_, ?_, ?_, ?_, ?_, h⟩
    all_goals simp +decide only [F, reduceIte, Nat.reduceAdd, Bool.not_true, Bool.not_false, EN, *, -h]
  rintro mL1 s2 ⟨v5, f3, f4, f5, f6, f7, h⟩
  rcases mL1 with _ | mL1
  · exact absurd h (by simp [m_spec_EqualStorages_L1])
  simp only [m_spec_EqualStorages_L1] at h
  refine sq (sq (rn ?_))
  refine an ?_
  rcases bcas (decide (v5 < (List.length p0.Buckets : Int))) with b8 | b8
  · replace h := ite_f b8 h
    refine cf (xt (aft_cx (aft_ix (aft_x (an (sq (rn ?_)))))))
    refine an (rt ?_)
    cases h
    simp [Ret, TB, EN, *]
  replace h := ite_t b8 h
  refine ct (sk (an (sq (bk (sq ?_)))))
  obtain ⟨x9, h10, h⟩ := bind_some h
  obtain ⟨q11, q12, q13⟩ := idx_some h10
  obtain ⟨x14, h15, h⟩ := bind_some h
  obtain ⟨q16, q17, q18⟩ := idx_some h15
  obtain ⟨x19, h20, h⟩ := bind_some h
  refine rd1 mixed (c_spec_EqualBuckets _ _ _ h20) ?_
  refine an ?_
  rcases bcase (!x19) with b21 | b21
  · replace h := ite_t b21 h
    refine ct (sq (rn ?_))
    refine an (rt ?_)
    cases h
    simp [Ret, TB, EN, *]
  replace h := ite_f b21 h
  refine cf (sk (ab (an (rn ?_))))
  refine aft_i ⟨mL1, by omega, (IntKind.i64.wrap (v5 + 1)), ?_, ?_, ?_, ?_, ?_, h⟩
  all_goals simp +decide only [F, reduceIte, Nat.reduceAdd, Bool.not_true, Bool.not_false, EN, *, -h]

set_option maxRecDepth 20000 in
set_option maxHeartbeats 4000000 in
theorem c_spec_EqualInts (p0 : List Int) (p1 : List Int) (r : Bool) (h : m_spec_EqualInts p0 p1 = some r) : SCalls Tryz.prog 356 [(false, [.sl (List.map enI p0)]), (false, [.sl (List.map enI p1)])] [(false, [.ro (.bool r)])] := by
  unfold m_spec_EqualInts at h
  refine scalls_n (N := 26) (vars := [.tmp 4]) Tryz.func356 rfl rfl rfl (by decide +kernel) (Nat.le_of_ble_eq_true rfl) fun base wd => ?_
  refine sq (rn ?_)
  refine an (sq (sq (rn ?_)))
  refine an ?_
  rcases bcase ((List.length p0 : Int) != (List.length p1 : Int)) with b1 | b1
  · replace h := ite_t b1 h
    refine ct (sq (rn ?_))
    refine an (rt ?_)
    cases h
    simp [Ret, TB, EN, *]
  replace h := ite_f b1 h
  refine cf (sk (an (sq (sq (rn ?_)))))
  refine an (bk ?_)
  refine SW_loop (fun m s => ∃ v5 : Int, s.t 0 = .v false [.dat (.sl (List.map enI p0))] ∧ s.t 1 = .v false [.dat (.sl (List.map enI p1))] ∧ s.t 5 = .v false [.dat (.int .i64 v5)] ∧ m_spec_EqualInts_L1 p0 p1 m v5 = some r) fuel ?_ ?_
  · refine ⟨0, ?_, ?_, ?_, h⟩
    all_goals simp +decide only [F, reduceIte, Nat.reduceAdd, Bool.not_true, Bool.not_false, EN, *, -h]
  rintro mL1 s2 ⟨v5, f3, f4, f5, h⟩
  rcases mL1 with _ | mL1
  · exact absurd h (by simp [m_spec_EqualInts_L1])
  simp only [m_spec_EqualInts_L1] at h
  refine sq (sq (rn ?_))
  refine an ?_
  rcases bcas (decide (v5 < (List.length p0 : Int))) with b6 | b6
  · replace h := ite_f b6 h
    refine cf (xt (aft_cx (aft_ix (aft_x (an (sq (rn ?_)))))))
    refine an (rt ?_)
    cases h
    simp [Ret, TB, EN, *]
  replace h := ite_t b6 h
  refine ct (sk (an (sq (bk (sq ?_)))))
  obtain ⟨x7, h8, h⟩ := bind_some h
  obtain ⟨q9, q10, q11⟩ := idx_some h8
  obtain ⟨x12, h13, h⟩ := bind_some h
  obtain ⟨q14, q15, q16⟩ := idx_some h13
  refine rd mixed ?_
  refine an ?_
  rcases bcase (x7 != x12) with b17 | b17
  · replace h := ite_t b17 h
    refine ct (sq (rn ?_))
    refine an (rt ?_)
    cases h
    simp [Ret, TB, EN, *]
  replace h := ite_f b17 h
  refine cf (sk (ab (an (rn ?_))))
  refine aft_i ⟨mL1, by omega, (IntKind.i64.wrap (v5 + 1)), ?_, ?_, ?_, h⟩
  all_goals simp +decide only [F, reduceIte, Nat.reduceAdd, Bool.not_true, Bool.not_false, EN, *, -h]

set_option maxRecDepth 20000 in
set_option maxHeartbeats 4000000 in
theorem c_spec_EqualMachines (p0 : M.Machine) (p1 : M.Machine) (r : Bool) (h : m_spec_EqualMachines p0 p1 = some r) : SCalls Tryz.prog 274 [(true, M.Machine.en p0), (true, M.Machine.en p1)] [(false, [.ro (.bool r)])] := by
  unfold m_spec_EqualMachines at h
  simp only [M.Machine.en]
  refine scalls_n (N := 67) (vars := [.tmp 4]) Tryz.func274 rfl rfl rfl (by decide +kernel) (Nat.le_of_ble_eq_true rfl) fun base wd => ?_
  refine sq (rn ?_)
  refine an (sq (sq ?_))
  rcases bcase ((List.length p0.Script : Int) != (List.length p1.Script : Int)) with b1 | b1
  · replace h := ite_t b1 h
    refine rgo ?_
    refine ec 20 ?_
    refine ec 20 ?_
    refine ez ?_
    refine an (ct (sq (rn ?_)))
    refine an (rt ?_)
    cases h
    simp [Ret, TB, EN, *]
  replace h := ite_f b1 h
  rcases bcase (p0.Pc != p1.Pc) with b2 | b2
  · replace h := ite_t b2 h
    refine rgo ?_
    refine ec 20 ?_
    refine ec 20 ?_
    refine ez ?_
    refine an (ct (sq (rn ?_)))
    refine an (rt ?_)
    cases h
    simp [Ret, TB, EN, *]
  replace h := ite_f b2 h
  obtain ⟨x3, h4, h⟩ := bind_some h
  rcases bcase (!x3) with b5 | b5
  · replace h := ite_t b5 h
    refine rgo ?_
    refine ec1 20 (c_spec_EqualInts _ _ _ h4) ?_
    refine ec 20 ?_
    refine ez ?_
    refine an (ct (sq (rn ?_)))
    refine an (rt ?_)
    cases h
    simp [Ret, TB, EN, *]
  replace h := ite_f b5 h
  rcases bcase (p0.Steps != p1.Steps) with b6 | b6
  · replace h := ite_t b6 h
    refine rgo ?_
    refine ec1 20 (c_spec_EqualInts _ _ _ h4) ?_
    refine ec 20 ?_
    refine ez ?_
    refine an (ct (sq (rn ?_)))
    refine an (rt ?_)
    cases h
    simp [Ret, TB, EN, *]
  replace h := ite_f b6 h
  rcases bcase (!(p0.Done == p1.Done)) with b7 | b7
  · replace h := ite_t b7 h
    refine rgo ?_
    refine ec1 20 (c_spec_EqualInts _ _ _ h4) ?_
    refine ec 20 ?_
    refine ez ?_
    refine an (ct (sq (rn ?_)))
    refine an (rt ?_)
    cases h
    simp [Ret, TB, EN, *]
  replace h := ite_f b7 h
  refine rgo ?_
  refine ec1 20 (c_spec_EqualInts _ _ _ h4) ?_
  refine ec 20 ?_
  refine ez ?_
  refine an ?_
  rcases bcase (!(p0.Wait == p1.Wait)) with b8 | b8
  · replace h := ite_t b8 h
    refine ct (sq (rn ?_))
    refine an (rt ?_)
    cases h
    simp [Ret, TB, EN, *]
  replace h := ite_f b8 h
  refine cf (sk (an (sq (sq (rn ?_)))))
  refine an (bk ?_)
  refine SW_loop (fun m s => ∃ v5 : Int, s.t 2 = .v false [.bp 2 1 0] ∧ s.t 3 = .v false [.bp 3 1 0] ∧ s.t 5 = .v false [.dat (.int .i64 v5)] ∧ s.h 2 = (1, .box 146 [.dat (.sl (List.map M.Instr.en p0.Script)), .dat (.int .i64 p0.Pc), .dat (.sl (List.map enI p0.Regs)), .dat (.int .i64 p0.Steps), .dat (.bool p0.Done), .dat (.bool p0.Wait)]) ∧ s.h 3 = (1, .box 146 [.dat (.sl (List.map M.Instr.en p1.Script)), .dat (.int .i64 p1.Pc), .dat (.sl (List.map enI p1.Regs)), .dat (.int .i64 p1.Steps), .dat (.bool p1.Done), .dat (.bool p1.Wait)]) ∧ m_spec_EqualMachines_L1 p0 p1 m v5 = some r) fuel ?_ ?_
  · refine ⟨0, ?_, ?_, ?_, ?_, ?_, h⟩
    all_goals simp +decide only [F, reduceIte, Nat.reduceAdd, Bool.not_true, Bool.not_false, EN, *, -h]
  rintro mL1 s9 ⟨v5, f10, f11, f12, f13, f14, h⟩
  rcases mL1 with _ | mL1
  · exact absurd h (by simp [m_spec_EqualMachines_L1])
  simp only [m_spec_EqualMachines_L1] at h
  refine sq (sq (rn ?_))
  refine an ?_
  rcases bcas (decide (v5 < (List.length p0.Script : Int))) with b15 | b15
  · replace h := ite_f b15 h
    refine cf (xt (aft_cx (aft_ix (aft_x (an (sq (rn ?_)))))))
    refine an (rt ?_)
    cases h
    simp [Ret, TB, EN, *]
  replace h := ite_t b15 h
  refine ct (sk (an (sq (bk (sq ?_)))))
  obtain ⟨x16, h17, h⟩ := bind_some h
  obtain ⟨q18, q19, q20⟩ := idx_some h17
  obtain ⟨x21, h22, h⟩ := bind_some h
  obtain ⟨q23, q24, q25⟩ := idx_some h22
  refine rd mixed ?_
  refine an ?_
  rcases bcase (!((x16.Kind == x21.Kind) && ((x16.R == x21.R) && ((x16.N == x21.N) && (x16.Text.toList == x21.Text.toList))))) with b26 | b26
  · replace h := ite_t b26 h
    refine ct (sq (rn ?_))
    refine an (rt ?_)
    cases h
    simp [Ret, TB, EN, *]
  replace h := ite_f b26 h
  refine cf (sk (ab (an (rn ?_))))
  refine aft_i ⟨mL1, by omega, (IntKind.i64.wrap (v5 + 1)), ?_, ?_, ?_, ?_, ?_, h⟩
  all_goals simp +decide only [F, reduceIte, Nat.reduceAdd, Bool.not_true, Bool.not_false, EN, *, -h]

set_option maxRecDepth 20000 in
set_option maxHeartbeats 4000000 in
theorem c_spec_EqualPages (p0 : M.Page) (p1 : M.Page) (r : Bool) (h : m_spec_EqualPages p0 p1 = some r) : SCalls Tryz.prog 171 [(true, M.Page.en p0), (true, M.Page.en p1)] [(false, [.ro (.bool r)])] := by
  unfold m_spec_EqualPages at h
  simp only [M.Page.en]
  refine scalls_n (N := 64) (vars := [.tmp 4]) Tryz.func171 rfl rfl rfl (by decide +kernel) (Nat.le_of_ble_eq_true rfl) fun base wd => ?_
  refine sq (rn ?_)
  refine an (sq (sq ?_))
  rcases bcase (p0.Id != p1.Id) with b1 | b1
  · replace h := ite_t b1 h
    refine rn ?_
    refine an (ct (sq (rn ?_)))
    refine an (rt ?_)
    cases h
    simp [Ret, TB, EN, *]
  replace h := ite_f b1 h
  rcases bcase (!(p0.Site.toList == p1.Site.toList)) with b2 | b2
  · replace h := ite_t b2 h
    refine rn ?_
    refine an (ct (sq (rn ?_)))
    refine an (rt ?_)
    cases h
    simp [Ret, TB, EN, *]
  replace h := ite_f b2 h
  rcases bcase (!(p0.Top.toList == p1.Top.toList)) with b3 | b3
  · replace h := ite_t b3 h
    refine rn ?_
    refine an (ct (sq (rn ?_)))
    refine an (rt ?_)
    cases h
    simp [Ret, TB, EN, *]
  replace h := ite_f b3 h
  rcases bcase (p0.Version != p1.Version) with b4 | b4
  · replace h := ite_t b4 h
    refine rn ?_
    refine an (ct (sq (rn ?_)))
    refine an (rt ?_)
    cases h
    simp [Ret, TB, EN, *]
  replace h := ite_f b4 h
  refine rn ?_
  refine an ?_
  rcases bcase ((List.length p0.Loaded : Int) != (List.length p1.Loaded : Int)) with b5 | b5
  · replace h := ite_t b5 h
    refine ct (sq (rn ?_))
    refine an (rt ?_)
    cases h
    simp [Ret, TB, EN, *]
  replace h := ite_f b5 h
  refine cf (sk (an (sq (sq (rn ?_)))))
  refine an (bk ?_)
  refine SW_loop (fun m s => ∃ v5 : Int, s.t 2 = .v false [.bp 2 1 0] ∧ s.t 3 = .v false [.bp 3 1 0] ∧ s.t 5 = .v false [.dat (.int .i64 v5)] ∧ s.h 2 = (1, .box 148 [.dat (.int .i64 p0.Id), .dat (.str p0.Site), .dat (.str p0.Top), .dat (.int .i64 p0.Version), .dat (.sl (List.map M.Loaded.en p0.Loaded)), .dat (.sl (List.map M.Instr.en p0.Machine.Script)), .dat (.int .i64 p0.Machine.Pc), .dat (.sl (List.map enI p0.Machine.Regs)), .dat (.int .i64 p0.Machine.Steps), .dat (.bool p0.Machine.Done), .dat (.bool p0.Machine.Wait)]) ∧ s.h 3 = (1, .box 148 [.dat (.int .i64 p1.Id), .dat (.str p1.Site), .dat (.str p1.Top), .dat (.int .i64 p1.Version), .dat (.sl (List.map M.Loaded.en p1.Loaded)), .dat (.sl (List.map M.Instr.en p1.Machine.Script)), .dat (.int .i64 p1.Machine.Pc), .dat (.sl (List.map enI p1.Machine.Regs)), .dat (.int .i64 p1.Machine.Steps), .dat (.bool p1.Machine.Done), .dat (.bool p1.Machine.Wait)]) ∧ m_spec_EqualPages_L1 p0 p1 m v5 = some r) fuel ?_ ?_
  · refine ⟨0, ?_, ?_, ?_, ?_, ?_, h⟩
    all_goals simp +decide only [F, reduceIte, Nat.reduceAdd, Bool.not_true, Bool.not_false, EN, *, -h]
  rintro mL1 s6 ⟨v5, f7, f8, f9, f10, f11, h⟩
  rcases mL1 with _ | mL1
  · exact absurd h (by simp [m_spec_EqualPages_L1])
  simp only [m_spec_EqualPages_L1] at h
  refine sq (sq (rn ?_))
  refine an ?_
  rcases bcas (decide (v5 < (List.length p0.Loaded : Int))) with b12 | b12
  · replace h := ite_f b12 h
    refine cf (xt (aft_cx (aft_ix (aft_x (an (sq ?_))))))
    obtain ⟨x24, h25, h⟩ := bind_some h
    refine rn1 (c_spec_EqualMachines _ _ _ h25) ?_
    refine an (rt ?_)
    cases h
    simp [Ret, TB, EN, *]
  replace h := ite_t b12 h
  refine ct (sk (an (sq (bk (sq ?_)))))
  obtain ⟨x13, h14, h⟩ := bind_some h
  obtain ⟨q15, q16, q17⟩ := idx_some h14
  obtain ⟨x18, h19, h⟩ := bind_some h
  obtain ⟨q20, q21, q22⟩ := idx_some h19
  refine rd mixed ?_
  refine an ?_
  rcases bcase (!((x13.Path.toList == x18.Path.toList) && (x13.Version == x18.Version))) with b23 | b23
  · replace h := ite_t b23 h
    refine ct (sq (rn ?_))
    refine an (rt ?_)
    cases h
    simp [Ret, TB, EN, *]
  replace h := ite_f b23 h
  refine cf (sk (ab (an (rn ?_))))
  refine aft_i ⟨mL1, by omega, (IntKind.i64.wrap (v5 + 1)), ?_, ?_, ?_, ?_, ?_, h⟩
  all_goals simp +decide only [F, reduceIte, Nat.reduceAdd, Bool.not_true, Bool.not_false, EN, *, -h]

set_option maxRecDepth 20000 in
set_option maxHeartbeats 4000000 in
theorem c_spec_l29Volatile (p0 : M.World) (p1 : M.World) (r : Bool) (h : m_spec_l29Volatile p0 p1 = some r) : SCalls Tryz.prog 69 [(true, M.World.en p0), (true, M.World.en p1)] [(false, [.ro (.bool r)])] := by
  unfold m_spec_l29Volatile at h
  simp only [M.World.en]
  refine scalls_n (N := 98) (vars := [.tmp 4]) Tryz.func69 rfl rfl rfl (by decide +kernel) (Nat.le_of_ble_eq_true rfl) fun base wd => ?_
  refine sq (rn ?_)
  refine an (sq (sq ?_))
  rcases bcase ((List.length p0.Pages : Int) != (List.length p1.Pages : Int)) with b1 | b1
  · replace h := ite_t b1 h
    refine rn ?_
    refine an (ct (sq (rn ?_)))
    refine an (rt ?_)
    cases h
    simp [Ret, TB, EN, *]
  replace h := ite_f b1 h
  rcases bcase ((List.length p0.Locks.Locks : Int) != (List.length p1.Locks.Locks : Int)) with b2 | b2
  · replace h := ite_t b2 h
    refine rn ?_
    refine an (ct (sq (rn ?_)))
    refine an (rt ?_)
    cases h
    simp [Ret, TB, EN, *]
  replace h := ite_f b2 h
  refine rn ?_
  refine an ?_
  rcases bcase ((List.length p0.Channel.Mails : Int) != (List.length p1.Channel.Mails : Int)) with b3 | b3
  · replace h := ite_t b3 h
    refine ct (sq (rn ?_))
    refine an (rt ?_)
    cases h
    simp [Ret, TB, EN, *]
  replace h := ite_f b3 h
  refine cf (sk (an (sq (sq (rn ?_)))))
  refine an (bk ?_)
  refine SW_loop (fun m s => ∃ v5 : Int, s.t 2 = .v false [.bp 2 1 0] ∧ s.t 3 = .v false [.bp 3 1 0] ∧ s.t 5 = .v false [.dat (.int .i64 v5)] ∧ s.h 2 = (1, .box 80 [.dat (.int .i64 p0.Now), .dat (.bool p0.Online), .dat (.int .i64 p0.Device), .dat (.sl (List.map M.Bucket.en p0.Storage.Buckets)), .dat (.sl (List.map M.Page.en p0.Pages)), .dat (.int .i64 p0.NextPage), .dat (.sl (List.map M.Lock.en p0.Locks.Locks)), .dat (.sl (List.map M.Mail.en p0.Channel.Mails)), .dat (.sl (List.map M.Site.en p0.Sites)), .dat (.sl (List.map M.Server.en p0.Servers))]) ∧ s.h 3 = (1, .box 80 [.dat (.int .i64 p1.Now), .dat (.bool p1.Online), .dat (.int .i64 p1.Device), .dat (.sl (List.map M.Bucket.en p1.Storage.Buckets)), .dat (.sl (List.map M.Page.en p1.Pages)), .dat (.int .i64 p1.NextPage), .dat (.sl (List.map M.Lock.en p1.Locks.Locks)), .dat (.sl (List.map M.Mail.en p1.Channel.Mails)), .dat (.sl (List.map M.Site.en p1.Sites)), .dat (.sl (List.map M.Server.en p1.Servers))]) ∧ m_spec_l29Volatile_L1 p0 p1 m v5 = some r) fuel ?_ ?_
  · refine ⟨0, ?_, ?_, ?_, ?_, ?_, h⟩
    all_goals simp +decide only [F, reduceIte, Nat.reduceAdd, Bool.not_true, Bool.not_false, EN, *, -h]
  rintro mL1 s4 ⟨v5, f5, f6, f7, f8, f9, h⟩
  rcases mL1 with _ | mL1
  · exact absurd h (by simp [m_spec_l29Volatile_L1])
  simp only [m_spec_l29Volatile_L1] at h
  refine sq (sq (rn ?_))
  refine an ?_
  rcases bcase (decide (v5 < (List.length p0.Pages : Int))) with b10 | b10
  · replace h := ite_t b10 h
    refine ct (sk (an (sq (bk (sq ?_)))))
    obtain ⟨x11, h12, h⟩ := bind_some h
    obtain ⟨q13, q14, q15⟩ := idx_some h12
    obtain ⟨x16, h17, h⟩ := bind_some h
    obtain ⟨q18, q19, q20⟩ := idx_some h17
    obtain ⟨x21, h22, h⟩ := bind_some h
    refine rd1 mixed (c_spec_EqualPages _ _ _ h22) ?_
    refine an ?_
    rcases bcase (!x21) with b23 | b23
    · replace h := ite_t b23 h
      refine ct (sq (rn ?_))
      refine an (rt ?_)
      cases h
      simp [Ret, TB, EN, *]
    replace h := ite_f b23 h
    refine cf (sk (ab (an (rn ?_))))
    refine aft_i ⟨mL1, by omega, (IntKind.i64.wrap (v5 + 1)), ?_, ?_, ?_, ?_, ?_, h⟩
    all_goals simp +decide only [F, reduceIte, Nat.reduceAdd, Bool.not_true, Bool.not_false, EN, *, -h]
  replace h := ite_f b10 h
  refine cf (xt (aft_cx (aft_ix (aft_x (an (sq (sq (rn ?_))))))))
  refine an (bk ?_)
  refine SW_loop (fun m s => ∃ v6 : Int, s.t 2 = .v false [.bp 2 1 0] ∧ s.t 3 = .v false [.bp 3 1 0] ∧ s.t 6 = .v false [.dat (.int .i64 v6)] ∧ s.h 2 = (1, .box 80 [.dat (.int .i64 p0.Now), .dat (.bool p0.Online), .dat (.int .i64 p0.Device), .dat (.sl (List.map M.Bucket.en p0.Storage.Buckets)), .dat (.sl (List.map M.Page.en p0.Pages)), .dat (.int .i64 p0.NextPage), .dat (.sl (List.map M.Lock.en p0.Locks.Locks)), .dat (.sl (List.map M.Mail.en p0.Channel.Mails)), .dat (.sl (List.map M.Site.en p0.Sites)), .dat (.sl (List.map M.Server.en p0.Servers))]) ∧ s.h 3 = (1, .box 80 [.dat (.int .i64 p1.Now), .dat (.bool p1.Online), .dat (.int .i64 p1.Device), .dat (.sl (List.map M.Bucket.en p1.Storage.Buckets)), .dat (.sl (List.map M.Page.en p1.Pages)), .dat (.int .i64 p1.NextPage), .dat (.sl (List.map M.Lock.en p1.Locks.Locks)), .dat (.sl (List.map M.Mail.en p1.Channel.Mails)), .dat (.sl (List.map M.Site.en p1.Sites)), .dat (.sl (List.map M.Server.en p1.Servers))]) ∧ m_spec_l29Volatile_L2 p0 p1 m v6 = some r) fuel ?_ ?_
  · refine ⟨0, ?_, ?_, ?_, ?_, ?_, h⟩
    all_goals simp +decide only [F, reduceIte, Nat.reduceAdd, Bool.not_true, Bool.not_false, EN, *, -h]
  rintro mL2 s24 ⟨v6, f25, f26, f27, f28, f29, h⟩
  rcases mL2 with _ | mL2
  · exact absurd h (by simp [m_spec_l29Volatile_L2])
  simp only [m_spec_l29Volatile_L2] at h
  refine sq (sq (rn ?_))
  refine an ?_
  rcases bcase (decide (v6 < (List.length p0.Locks.Locks : Int))) with b30 | b30
  · replace h := ite_t b30 h
    refine ct (sk (an (sq (bk (sq ?_)))))
    obtain ⟨x31, h32, h⟩ := bind_some h
    obtain ⟨q33, q34, q35⟩ := idx_some h32
    obtain ⟨x36, h37, h⟩ := bind_some h
    obtain ⟨q38, q39, q40⟩ := idx_some h37
    refine rd mixed ?_
    refine an ?_
    rcases bcase (!((x31.Name.toList == x36.Name.toList) && ((x31.Page == x36.Page) && ((x31.Shared == x36.Shared) && (x31.Held == x36.Held))))) with b41 | b41
    · replace h := ite_t b41 h
      refine ct (sq (rn ?_))
      refine an (rt ?_)
      cases h
      simp [Ret, TB, EN, *]
    replace h := ite_f b41 h
    refine cf (sk (ab (an (rn ?_))))
    refine aft_i ⟨mL2, by omega, (IntKind.i64.wrap (v6 + 1)), ?_, ?_, ?_, ?_, ?_, h⟩
    all_goals simp +decide only [F, reduceIte, Nat.reduceAdd, Bool.not_true, Bool.not_false, EN, *, -h]
  replace h := ite_f b30 h
  refine cf (xt (aft_cx (aft_ix (aft_x (an (sq (sq (rn ?_))))))))
  refine an (bk ?_)
  refine SW_loop (fun m s => ∃ v7 : Int, s.t 2 = .v false [.bp 2 1 0] ∧ s.t 3 = .v false [.bp 3 1 0] ∧ s.t 7 = .v false [.dat (.int .i64 v7)] ∧ s.h 2 = (1, .box 80 [.dat (.int .i64 p0.Now), .dat (.bool p0.Online), .dat (.int .i64 p0.Device), .dat (.sl (List.map M.Bucket.en p0.Storage.Buckets)), .dat (.sl (List.map M.Page.en p0.Pages)), .dat (.int .i64 p0.NextPage), .dat (.sl (List.map M.Lock.en p0.Locks.Locks)), .dat (.sl (List.map M.Mail.en p0.Channel.Mails)), .dat (.sl (List.map M.Site.en p0.Sites)), .dat (.sl (List.map M.Server.en p0.Servers))]) ∧ s.h 3 = (1, .box 80 [.dat (.int .i64 p1.Now), .dat (.bool p1.Online), .dat (.int .i64 p1.Device), .dat (.sl (List.map M.Bucket.en p1.Storage.Buckets)), .dat (.sl (List.map M.Page.en p1.Pages)), .dat (.int .i64 p1.NextPage), .dat (.sl (List.map M.Lock.en p1.Locks.Locks)), .dat (.sl (List.map M.Mail.en p1.Channel.Mails)), .dat (.sl (List.map M.Site.en p1.Sites)), .dat (.sl (List.map M.Server.en p1.Servers))]) ∧ m_spec_l29Volatile_L3 p0 p1 m v7 = some r) fuel ?_ ?_
  · refine ⟨0, ?_, ?_, ?_, ?_, ?_, h⟩
    all_goals simp +decide only [F, reduceIte, Nat.reduceAdd, Bool.not_true, Bool.not_false, EN, *, -h]
  rintro mL3 s42 ⟨v7, f43, f44, f45, f46, f47, h⟩
  rcases mL3 with _ | mL3
  · exact absurd h (by simp [m_spec_l29Volatile_L3])
  simp only [m_spec_l29Volatile_L3] at h
  refine sq (sq (rn ?_))
  refine an ?_
  rcases bcas (decide (v7 < (List.length p0.Channel.Mails : Int))) with b48 | b48
  · replace h := ite_f b48 h
    refine cf (xt (aft_cx (aft_ix (aft_x (an (sq (rn ?_)))))))
    refine an (rt ?_)
    cases h
    simp [Ret, TB, EN, *]
  replace h := ite_t b48 h
  refine ct (sk (an (sq (bk (sq ?_)))))
  obtain ⟨x49, h50, h⟩ := bind_some h
  obtain ⟨q51, q52, q53⟩ := idx_some h50
  obtain ⟨x54, h55, h⟩ := bind_some h
  obtain ⟨q56, q57, q58⟩ := idx_some h55
  refine rd mixed ?_
  refine an ?_
  rcases bcase (!((x49.To == x54.To) && ((x49.From == x54.From) && (x49.N == x54.N)))) with b59 | b59
  · replace h := ite_t b59 h
    refine ct (sq (rn ?_))
    refine an (rt ?_)
    cases h
    simp [Ret, TB, EN, *]
  replace h := ite_f b59 h
  refine cf (sk (ab (an (rn ?_))))
  refine aft_i ⟨mL3, by omega, (IntKind.i64.wrap (v7 + 1)), ?_, ?_, ?_, ?_, ?_, h⟩
  all_goals simp +decide only [F, reduceIte, Nat.reduceAdd, Bool.not_true, Bool.not_false, EN, *, -h]

set_option maxRecDepth 20000 in
set_option maxHeartbeats 4000000 in
theorem c_spec_l29Sites (p0 : List M.Site) (p1 : List M.Site) (r : Bool) (h : m_spec_l29Sites p0 p1 = some r) : SCalls Tryz.prog 70 [(false, [.sl (List.map M.Site.en p0)]), (false, [.sl (List.map M.Site.en p1)])] [(false, [.ro (.bool r)])] := by
  unfold m_spec_l29Sites at h
  refine scalls_n (N := 97) (vars := [.tmp 4]) Tryz.func70 rfl rfl rfl (by decide +kernel) (Nat.le_of_ble_eq_true rfl) fun base wd => ?_
  refine sq (rn ?_)
  refine an (sq (sq (rn ?_)))
  refine an ?_
  rcases bcase ((List.length p0 : Int) != (List.length p1 : Int)) with b1 | b1
  · replace h := ite_t b1 h
    refine ct (sq (rn ?_))
    refine an (rt ?_)
    cases h
    simp [Ret, TB, EN, *]
  replace h := ite_f b1 h
  refine cf (sk (an (sq (sq (rn ?_)))))
  refine an (bk ?_)
  refine SW_loop (fun m s => ∃ v5 : Int, s.t 0 = .v false [.dat (.sl (List.map M.Site.en p0))] ∧ s.t 1 = .v false [.dat (.sl (List.map M.Site.en p1))] ∧ s.t 5 = .v false [.dat (.int .i64 v5)] ∧ m_spec_l29Sites_L1 p0 p1 m v5 = some r) fuel ?_ ?_
  · refine ⟨0, ?_, ?_, ?_, h⟩
    all_goals simp +decide only [F, reduceIte, Nat.reduceAdd, Bool.not_true, Bool.not_false, EN, *, -h]
  rintro mL1 s2 ⟨v5, f3, f4, f5, h⟩
  rcases mL1 with _ | mL1
  · exact absurd h (by simp [m_spec_l29Sites_L1])
  simp only [m_spec_l29Sites_L1] at h
  refine sq (sq (rn ?_))
  refine an ?_
  rcases bcas (decide (v5 < (List.length p0 : Int))) with b6 | b6
  · replace h := ite_f b6 h
    refine cf (xt (aft_cx (aft_ix (aft_x (an (sq (rn ?_)))))))
    refine an (rt ?_)
    cases h
    simp [Ret, TB, EN, *]
  replace h := ite_t b6 h
  refine ct (sk (an (sq (bk (sq (sq ?_))))))
  obtain ⟨x7, h8, h⟩ := bind_some h
  obtain ⟨q9, q10, q11⟩ := idx_some h8
  obtain ⟨x12, h13, h⟩ := bind_some h
  obtain ⟨q14, q15, q16⟩ := idx_some h13
  rcases bcase (!(x7.Name.toList == x12.Name.toList)) with b17 | b17
  · replace h := ite_t b17 h
    refine rd mixed ?_
    refine an (ct (sq (rn ?_)))
    refine an (rt ?_)
    cases h
    simp [Ret, TB, EN, *]
  replace h := ite_f b17 h
  rcases bcase (x7.Version != x12.Version) with b18 | b18
  · replace h := ite_t b18 h
    refine rd mixed ?_
    refine an (ct (sq (rn ?_)))
    refine an (rt ?_)
    cases h
    simp [Ret, TB, EN, *]
  replace h := ite_f b18 h
  rcases bcase (!(x7.Shared == x12.Shared)) with b19 | b19
  · replace h := ite_t b19 h
    refine rd mixed ?_
    refine an (ct (sq (rn ?_)))
    refine an (rt ?_)
    cases h
    simp [Ret, TB, EN, *]
  replace h := ite_f b19 h
  refine rd mixed ?_
  refine an ?_
  rcases bcase ((List.length x7.Files : Int) != (List.length x12.Files : Int)) with b20 | b20
  · replace h := ite_t b20 h
    refine ct (sq (rn ?_))
    refine an (rt ?_)
    cases h
    simp [Ret, TB, EN, *]
  replace h := ite_f b20 h
  refine cf (sk (an (sq (rn ?_))))
  refine an (bk ?_)
  obtain ⟨k22, e23, h⟩ := absk (f := fun kk => m_spec_l29Sites_L2 x7 x12 kk fuel 0) h
  refine SW_loop (fun m s => ∃ v6_L2 : Int, s.t 0 = .v false [.dat (.sl (List.map M.Site.en p0))] ∧ s.t 1 = .v false [.dat (.sl (List.map M.Site.en p1))] ∧ s.t 5 = .v false [.dat (.int .i64 v5)] ∧ s.t 6 = .v false [.dat (.int .i64 v6_L2)] ∧ m_spec_l29Sites_L2 x7 x12 k22 m v6_L2 = some r) fuel ?_ ?_
  · refine ⟨0, ?_, ?_, ?_, ?_, h⟩
    all_goals simp +decide only [F, reduceIte, Nat.reduceAdd, Bool.not_true, Bool.not_false, EN, *, -h]
  rintro mL2 s21 ⟨v6_L2, f24, f25, f26, f27, h⟩
  rcases mL2 with _ | mL2
  · exact absurd h (by simp [m_spec_l29Sites_L2])
  simp only [m_spec_l29Sites_L2] at h
  refine sq (sq (rn ?_))
  refine an ?_
  rcases bcas (decide (v6_L2 < (List.length x7.Files : Int))) with b28 | b28
  · replace h := ite_f b28 h
    refine cf (xt (aft_cx ?_))
    subst e23
    refine aft_ix (aft_x (ab (an (rn ?_))))
    refine aft_i ⟨mL1, by omega, (IntKind.i64.wrap (v5 + 1)), ?_, ?_, ?_, h⟩
    all_goals simp +decide only [F, reduceIte, Nat.reduceAdd, Bool.not_true, Bool.not_false, EN, *, -h]
  replace h := ite_t b28 h
  refine ct (sk (an (sq (bk (sq ?_)))))
  obtain ⟨x29, h30, h⟩ := bind_some h
  obtain ⟨q31, q32, q33⟩ := idx_some h30
  obtain ⟨x34, h35, h⟩ := bind_some h
  obtain ⟨q36, q37, q38⟩ := idx_some h35
  refine rd mixed ?_
  refine an ?_
  rcases bcase (!(x29.toList == x34.toList)) with b39 | b39
  · replace h := ite_t b39 h
    refine ct (sq (rn ?_))
    refine an (rt ?_)
    cases h
    simp [Ret, TB, EN, *]
  replace h := ite_f b39 h
  refine cf (sk (ab (an (rn ?_))))
  refine aft_i ⟨mL2, by omega, (IntKind.i64.wrap (v6_L2 + 1)), ?_, ?_, ?_, ?_, h⟩
  all_goals simp +decide only [F, reduceIte, Nat.reduceAdd, Bool.not_true, Bool.not_false, EN, *, -h]

set_option maxRecDepth 20000 in
set_option maxHeartbeats 4000000 in
theorem c_spec_EqualWorlds (p0 : M.World) (p1 : M.World) (r : Bool) (h : m_spec_EqualWorlds p0 p1 = some r) : SCalls Tryz.prog 16 [(true, M.World.en p0), (true, M.World.en p1)] [(false, [.ro (.bool r)])] := by
  unfold m_spec_EqualWorlds at h
  simp only [M.World.en]
  refine scalls_n (N := 77) (vars := [.tmp 4]) Tryz.func16 rfl rfl rfl (by decide +kernel) (Nat.le_of_ble_eq_true rfl) fun base wd => ?_
  refine sq (rn ?_)
  refine an (sq (sq ?_))
  rcases bcase (p0.Now != p1.Now) with b1 | b1
  · replace h := ite_t b1 h
    refine rn ?_
    refine an (ct (sq (rn ?_)))
    refine an (rt ?_)
    cases h
    simp [Ret, TB, EN, *]
  replace h := ite_f b1 h
  rcases bcase (!(p0.Online == p1.Online)) with b2 | b2
  · replace h := ite_t b2 h
    refine rn ?_
    refine an (ct (sq (rn ?_)))
    refine an (rt ?_)
    cases h
    simp [Ret, TB, EN, *]
  replace h := ite_f b2 h
  rcases bcase (p0.Device != p1.Device) with b3 | b3
  · replace h := ite_t b3 h
    refine rn ?_
    refine an (ct (sq (rn ?_)))
    refine an (rt ?_)
    cases h
    simp [Ret, TB, EN, *]
  replace h := ite_f b3 h
  rcases bcase (p0.NextPage != p1.NextPage) with b4 | b4
  · replace h := ite_t b4 h
    refine rn ?_
    refine an (ct (sq (rn ?_)))
    refine an (rt ?_)
    cases h
    simp [Ret, TB, EN, *]
  replace h := ite_f b4 h
  refine rn ?_
  refine an ?_
  rcases bcase ((List.length p0.Servers : Int) != (List.length p1.Servers : Int)) with b5 | b5
  · replace h := ite_t b5 h
    refine ct (sq (rn ?_))
    refine an (rt ?_)
    cases h
    simp [Ret, TB, EN, *]
  replace h := ite_f b5 h
  refine cf (sk (an (sq (sq (rn ?_)))))
  refine an (bk ?_)
  refine SW_loop (fun m s => ∃ v5 : Int, s.t 2 = .v false [.bp 2 1 0] ∧ s.t 3 = .v false [.bp 3 1 0] ∧ s.t 5 = .v false [.dat (.int .i64 v5)] ∧ s.h 2 = (1, .box 80 [.dat (.int .i64 p0.Now), .dat (.bool p0.Online), .dat (.int .i64 p0.Device), .dat (.sl (List.map M.Bucket.en p0.Storage.Buckets)), .dat (.sl (List.map M.Page.en p0.Pages)), .dat (.int .i64 p0.NextPage), .dat (.sl (List.map M.Lock.en p0.Locks.Locks)), .dat (.sl (List.map M.Mail.en p0.Channel.Mails)), .dat (.sl (List.map M.Site.en p0.Sites)), .dat (.sl (List.map M.Server.en p0.Servers))]) ∧ s.h 3 = (1, .box 80 [.dat (.int .i64 p1.Now), .dat (.bool p1.Online), .dat (.int .i64 p1.Device), .dat (.sl (List.map M.Bucket.en p1.Storage.Buckets)), .dat (.sl (List.map M.Page.en p1.Pages)), .dat (.int .i64 p1.NextPage), .dat (.sl (List.map M.Lock.en p1.Locks.Locks)), .dat (.sl (List.map M.Mail.en p1.Channel.Mails)), .dat (.sl (List.map M.Site.en p1.Sites)), .dat (.sl (List.map M.Server.en p1.Servers))]) ∧ m_spec_EqualWorlds_L1 p0 p1 m v5 = some r) fuel ?_ ?_
  · refine ⟨0, ?_, ?_, ?_, ?_, ?_, h⟩
    all_goals simp +decide only [F, reduceIte, Nat.reduceAdd, Bool.not_true, Bool.not_false, EN, *, -h]
  rintro mL1 s6 ⟨v5, f7, f8, f9, f10, f11, h⟩
  rcases mL1 with _ | mL1
  · exact absurd h (by simp [m_spec_EqualWorlds_L1])
  simp only [m_spec_EqualWorlds_L1] at h
  refine sq (sq (rn ?_))
  refine an ?_
  rcases bcase (decide (v5 < (List.length p0.Servers : Int))) with b12 | b12
  · replace h := ite_t b12 h
    refine ct (sk (an (sq (bk (sq ?_)))))
    obtain ⟨x13, h14, h⟩ := bind_some h
    obtain ⟨q15, q16, q17⟩ := idx_some h14
    obtain ⟨x18, h19, h⟩ := bind_some h
    obtain ⟨q20, q21, q22⟩ := idx_some h19
    obtain ⟨x23, h24, h⟩ := bind_some h
    refine rd1 mixed (c_spec_EqualServers _ _ _ h24) ?_
    refine an ?_
    rcases bcase (!x23) with b25 | b25
    · replace h := ite_t b25 h
      refine ct (sq (rn ?_))
      refine an (rt ?_)
      cases h
      simp [Ret, TB, EN, *]
    replace h := ite_f b25 h
    refine cf (sk (ab (an (rn ?_))))
    refine aft_i ⟨mL1, by omega, (IntKind.i64.wrap (v5 + 1)), ?_, ?_, ?_, ?_, ?_, h⟩
    all_goals simp +decide only [F, reduceIte, Nat.reduceAdd, Bool.not_true, Bool.not_false, EN, *, -h]
  replace h := ite_f b12 h
  refine cf (xt (aft_cx (aft_ix (aft_x (an (sq ?_))))))
  obtain ⟨x26, h27, h⟩ := bind_some h
  rcases bcas x26 with b28 | b28
  · replace h := ite_f b28 h
    refine rn1 (c_spec_EqualStorages _ _ _ h27) ?_
    refine an (rt ?_)
    cases h
    simp [Ret, TB, EN, *]
  replace h := ite_t b28 h
  obtain ⟨x29, h30, h⟩ := bind_some h
  rcases bcas x29 with b31 | b31
  · replace h := ite_f b31 h
    refine rn2 (c_spec_EqualStorages _ _ _ h27) (c_spec_l29Volatile _ _ _ h30) ?_
    refine an (rt ?_)
    cases h
    simp [Ret, TB, EN, *]
  replace h := ite_t b31 h
  obtain ⟨x32, h33, h⟩ := bind_some h
  refine rn3 (c_spec_EqualStorages _ _ _ h27) (c_spec_l29Volatile _ _ _ h30) (c_spec_l29Sites _ _ _ h33) ?_
  refine an (rt ?_)
  cases h
  simp [Ret, TB, EN, *]

end Go.Proofs.YtgemmnkhddlhpaaGreat.gen
