/-
  Helper text: walks: each function's contract out of its model. No conditions beyond those of each contract.
-/
import Derived.Test.YtgemmnkhddlhpaaGreatEqualWorldsTi
import Derived.Test.YtgemmnkhddlhpaaGreatEqualWorldsWimpl0
import Derived.Test.YtgemmnkhddlhpaaGreatEqualWorldsWimpl1
namespace Go.Proofs.YtgemmnkhddlhpaaGreat.gen
open Go Go.Sh
set_option linter.unusedVariables false
set_option linter.unusedSimpArgs false
set_option maxRecDepth 20000 in
set_option maxHeartbeats 4000000 in
theorem c_slices_EqualFunc_Server (p0 : List M.Server) (p1 : List M.Server) (p2 : M.Server → M.Server → Option Bool) (f2_ : FuncId) (k2_ : List D) (hp2 : ∀ z0 z1 r, p2 z0 z1 = some r → SCalls Tryz.prog f2_ ((true, M.Server.en z0) :: (true, M.Server.en z1) ::  k2_.map fun c => (false, [c])) [(false, [.ro (.bool r)])]) (r : Bool) (h : m_slices_EqualFunc_Server p0 p1 p2 = some r) : SCalls Tryz.prog 83 [(false, [.sl (List.map M.Server.en p0)]), (false, [.sl (List.map M.Server.en p1)]), (false, [.fn f2_ k2_])] [(false, [.ro (.bool r)])] := by
  unfold m_slices_EqualFunc_Server at h
  refine scalls_n (N := 32) (vars := [.tmp 6]) Tryz.func83 rfl rfl rfl (by decide +kernel) (Nat.le_of_ble_eq_true rfl) fun base wd => ?_
  refine sq (rn ?_)
  refine an (sq (sq (rn ?_)))
  refine an ?_
  rcases bcase ((List.length p0 : Int) != (List.length p1 : Int)) with b1 | b1
  · replace h := ite_t b1 h
    refine ct (sq (rn ?_))
    refine an (rt ?_)
    cases h
    simp [Ret, TB, EN, *]
  replace h := ite_f b1 h
  refine cf (sk (an (sq (sq (rn ?_)))))
  refine an (bk ?_)
  refine SW_loop (fun m s => ∃ v17 : Int, s.t 1 = .v false [.dat (.sl (List.map M.Server.en p1))] ∧ s.t 2 = .v false [.dat (.fn f2_ k2_)] ∧ s.t 15 = .v false [.dat (.sl (List.map M.Server.en p0))] ∧ s.t 16 = .v false [.dat (.int .i64 (List.length p0 : Int))] ∧ s.t 17 = .v false [.dat (.int .i64 v17)] ∧ m_slices_EqualFunc_Server_L1 p0 p1 p2 m v17 = some r) fuel ?_ ?_
  · refine ⟨0, ?_, ?_, ?_, ?_, ?_, h⟩
    all_goals simp +decide only [F, reduceIte, Nat.reduceAdd, Bool.not_true, Bool.not_false, EN, *, -h]
  rintro mL1 s2 ⟨v17, f3, f4, f5, f6, f7, h⟩
  rcases mL1 with _ | mL1
  · exact absurd h (by simp [m_slices_EqualFunc_Server_L1])
  simp only [m_slices_EqualFunc_Server_L1] at h
  refine sq (rn ?_)
  refine an (sq ?_)
  rcases bcas (decide (v17 < (List.length p0 : Int))) with b8 | b8
  · replace h := ite_f b8 h
    refine cf (xt (aft_cx (aft_ix (aft_x (an (sq (rn ?_)))))))
    refine an (rt ?_)
    cases h
    simp [Ret, TB, EN, *]
  replace h := ite_t b8 h
  refine ct (sk (an (sq (bk (sq ?_)))))
  obtain ⟨x9, h10, h⟩ := bind_some h
  obtain ⟨q11, q12, q13⟩ := idx_some h10
  refine rn ?_
  refine an (sq ?_)
  obtain ⟨x14, h15, h⟩ := bind_some h
  obtain ⟨q16, q17, q18⟩ := idx_some h15
  refine rn ?_
  refine an (sq ?_)
  obtain ⟨x19, h20, h⟩ := bind_some h
  refine rn1 (hp2 x9 x14 x19 h20) ?_
  refine an ?_
  rcases bcase (!x19) with b21 | b21
  · replace h := ite_t b21 h
    refine ct (sq (rn ?_))
    refine an (rt ?_)
    cases h
    simp [Ret, TB, EN, *]
  replace h := ite_f b21 h
  refine cf (sk (ab (an (rn ?_))))
  refine aft_i ⟨mL1, by omega, (IntKind.i64.wrap (v17 + 1)), ?_, ?_, ?_, ?_, ?_, h⟩
  all_goals simp +decide only [F, reduceIte, Nat.reduceAdd, Bool.not_true, Bool.not_false, EN, *, -h]

set_option maxRecDepth 20000 in
set_option maxHeartbeats 4000000 in
theorem c_slices_Equal_Applied (p0 : List M.Applied) (p1 : List M.Applied) (r : Bool) (h : m_slices_Equal_Applied p0 p1 = some r) : SCalls Tryz.prog 182 [(false, [.sl (List.map M.Applied.en p0)]), (false, [.sl (List.map M.Applied.en p1)])] [(false, [.ro (.bool r)])] := by
  unfold m_slices_Equal_Applied at h
  refine scalls_n (N := 26) (vars := [.tmp 4]) Tryz.func182 rfl rfl rfl (by decide +kernel) (Nat.le_of_ble_eq_true rfl) fun base wd => ?_
  refine sq (rn ?_)
  refine an (sq (sq (rn ?_)))
  refine an ?_
  rcases bcase ((List.length p0 : Int) != (List.length p1 : Int)) with b1 | b1
  · replace h := ite_t b1 h
    refine ct (sq (rn ?_))
    refine an (rt ?_)
    cases h
    simp [Ret, TB, EN, *]
  replace h := ite_f b1 h
  refine cf (sk (an (sq (sq (rn ?_)))))
  refine an (bk ?_)
  refine SW_loop (fun m s => ∃ v13 : Int, s.t 0 = .v false [.dat (.sl (List.map M.Applied.en p0))] ∧ s.t 1 = .v false [.dat (.sl (List.map M.Applied.en p1))] ∧ s.t 12 = .v false [.dat (.int .i64 (List.length p0 : Int))] ∧ s.t 13 = .v false [.dat (.int .i64 v13)] ∧ m_slices_Equal_Applied_L1 p0 p1 m v13 = some r) fuel ?_ ?_
  · refine ⟨0, ?_, ?_, ?_, ?_, h⟩
    all_goals simp +decide only [F, reduceIte, Nat.reduceAdd, Bool.not_true, Bool.not_false, EN, *, -h]
  rintro mL1 s2 ⟨v13, f3, f4, f5, f6, h⟩
  rcases mL1 with _ | mL1
  · exact absurd h (by simp [m_slices_Equal_Applied_L1])
  simp only [m_slices_Equal_Applied_L1] at h
  refine sq (rn ?_)
  refine an (sq ?_)
  rcases bcas (decide (v13 < (List.length p0 : Int))) with b7 | b7
  · replace h := ite_f b7 h
    refine cf (xt (aft_cx (aft_ix (aft_x (an (sq (rn ?_)))))))
    refine an (rt ?_)
    cases h
    simp [Ret, TB, EN, *]
  replace h := ite_t b7 h
  refine ct (sk (an (sq (bk (sq (rn ?_))))))
  refine an (sq ?_)
  obtain ⟨x8, h9, h⟩ := bind_some h
  obtain ⟨q10, q11, q12⟩ := idx_some h9
  obtain ⟨x13, h14, h⟩ := bind_some h
  obtain ⟨q15, q16, q17⟩ := idx_some h14
  refine rd mixed ?_
  refine an ?_
  rcases bcase (!((x8.Device == x13.Device) && (x8.Seq == x13.Seq))) with b18 | b18
  · replace h := ite_t b18 h
    refine ct (sq (rn ?_))
    refine an (rt ?_)
    cases h
    simp [Ret, TB, EN, *]
  replace h := ite_f b18 h
  refine cf (sk (ab (an (rn ?_))))
  refine aft_i ⟨mL1, by omega, (IntKind.i64.wrap (v13 + 1)), ?_, ?_, ?_, ?_, h⟩
  all_goals simp +decide only [F, reduceIte, Nat.reduceAdd, Bool.not_true, Bool.not_false, EN, *, -h]

set_option maxRecDepth 20000 in
set_option maxHeartbeats 4000000 in
theorem c_impl_EqualServers (p0 : M.Server) (p1 : M.Server) (r : Bool) (h : m_impl_EqualServers p0 p1 = some r) : SCalls Tryz.prog 84 [(true, M.Server.en p0), (true, M.Server.en p1)] [(false, [.ro (.bool r)])] := by
  unfold m_impl_EqualServers at h
  simp only [M.Server.en]
  refine scalls_n (N := 24) (vars := [.tmp 4]) Tryz.func84 rfl rfl rfl (by decide +kernel) (Nat.le_of_ble_eq_true rfl) fun base wd => ?_
  refine sq (rn ?_)
  refine an (sq ?_)
  obtain ⟨x1, h2, h⟩ := bind_some h
  rcases bcas x1 with b3 | b3
  · replace h := ite_f b3 h
    refine rn1 (c_impl_EqualStores _ _ _ h2) ?_
    refine an (rt ?_)
    cases h
    simp [Ret, TB, EN, *]
  replace h := ite_t b3 h
  obtain ⟨x4, h5, h⟩ := bind_some h
  rcases bcas x4 with b6 | b6
  · replace h := ite_f b6 h
    refine rn2 (c_impl_EqualStores _ _ _ h2) (c_slices_Equal_Applied _ _ _ h5) ?_
    refine an (rt ?_)
    cases h
    simp [Ret, TB, EN, *]
  replace h := ite_t b6 h
  obtain ⟨x7, h8, h⟩ := bind_some h
  refine rn3 (c_impl_EqualStores _ _ _ h2) (c_slices_Equal_Applied _ _ _ h5) (c_slices_Equal_Write _ _ _ h8) ?_
  refine an (rt ?_)
  cases h
  simp [Ret, TB, EN, *]

set_option maxRecDepth 20000 in
set_option maxHeartbeats 4000000 in
theorem c_impl_EqualWorlds (p0 : M.World) (p1 : M.World) (r : Bool) (h : m_impl_EqualWorlds p0 p1 = some r) : SCalls Tryz.prog 18 [(true, M.World.en p0), (true, M.World.en p1)] [(false, [.ro (.bool r)])] := by
  unfold m_impl_EqualWorlds at h
  simp only [M.World.en]
  refine scalls_n (N := 77) (vars := [.tmp 4]) Tryz.func18 rfl rfl rfl (by decide +kernel) (Nat.le_of_ble_eq_true rfl) fun base wd => ?_
  refine sq (rn ?_)
  refine an (sq ?_)
  rcases bcas (p0.Now == p1.Now) with b1 | b1
  · replace h := ite_f b1 h
    refine rgo ?_
    refine ec 20 ?_
    refine ec 20 ?_
    refine ec 20 ?_
    refine ez ?_
    refine an (rt ?_)
    cases h
    simp [Ret, TB, EN, *]
  replace h := ite_t b1 h
  rcases bcas (p0.Online == p1.Online) with b2 | b2
  · replace h := ite_f b2 h
    refine rgo ?_
    refine ec 20 ?_
    refine ec 20 ?_
    refine ec 20 ?_
    refine ez ?_
    refine an (rt ?_)
    cases h
    simp [Ret, TB, EN, *]
  replace h := ite_t b2 h
  rcases bcas (p0.Device == p1.Device) with b3 | b3
  · replace h := ite_f b3 h
    refine rgo ?_
    refine ec 20 ?_
    refine ec 20 ?_
    refine ec 20 ?_
    refine ez ?_
    refine an (rt ?_)
    cases h
    simp [Ret, TB, EN, *]
  replace h := ite_t b3 h
  obtain ⟨x4, h5, h⟩ := bind_some h
  rcases bcas x4 with b6 | b6
  · replace h := ite_f b6 h
    refine rgo ?_
    refine ec 20 ?_
    refine ec1 20 (c_impl_EqualStorages _ _ _ h5) ?_
    refine ec 20 ?_
    refine ez ?_
    refine an (rt ?_)
    cases h
    simp [Ret, TB, EN, *]
  replace h := ite_t b6 h
  obtain ⟨x7, h8, h⟩ := bind_some h
  rcases bcas x7 with b9 | b9
  · replace h := ite_f b9 h
    refine rgo ?_
    refine ec 20 ?_
    refine ec2 20 (c_impl_EqualStorages _ _ _ h5) (c_slices_EqualFunc_Page p0.Pages p1.Pages (fun z0 z1 => m_impl_equalPage z0 z1) 78 [] (fun z0 z1 r hr => c_impl_equalPage z0 z1 r hr) x7 h8) ?_
    refine ec 20 ?_
    refine ez ?_
    refine an (rt ?_)
    cases h
    simp [Ret, TB, EN, *]
  replace h := ite_t b9 h
  rcases bcas (p0.NextPage == p1.NextPage) with b10 | b10
  · replace h := ite_f b10 h
    refine rgo ?_
    refine ec 20 ?_
    refine ec2 20 (c_impl_EqualStorages _ _ _ h5) (c_slices_EqualFunc_Page p0.Pages p1.Pages (fun z0 z1 => m_impl_equalPage z0 z1) 78 [] (fun z0 z1 r hr => c_impl_equalPage z0 z1 r hr) x7 h8) ?_
    refine ec 20 ?_
    refine ez ?_
    refine an (rt ?_)
    cases h
    simp [Ret, TB, EN, *]
  replace h := ite_t b10 h
  obtain ⟨x11, h12, h⟩ := bind_some h
  rcases bcas x11 with b13 | b13
  · replace h := ite_f b13 h
    refine rgo ?_
    refine ec 20 ?_
    refine ec2 20 (c_impl_EqualStorages _ _ _ h5) (c_slices_EqualFunc_Page p0.Pages p1.Pages (fun z0 z1 => m_impl_equalPage z0 z1) 78 [] (fun z0 z1 r hr => c_impl_equalPage z0 z1 r hr) x7 h8) ?_
    refine ec1 20 (c_slices_Equal_Lock _ _ _ h12) ?_
    refine ez ?_
    refine an (rt ?_)
    cases h
    simp [Ret, TB, EN, *]
  replace h := ite_t b13 h
  obtain ⟨x14, h15, h⟩ := bind_some h
  rcases bcas x14 with b16 | b16
  · replace h := ite_f b16 h
    refine rgo ?_
    refine ec 20 ?_
    refine ec2 20 (c_impl_EqualStorages _ _ _ h5) (c_slices_EqualFunc_Page p0.Pages p1.Pages (fun z0 z1 => m_impl_equalPage z0 z1) 78 [] (fun z0 z1 r hr => c_impl_equalPage z0 z1 r hr) x7 h8) ?_
    refine ec2 20 (c_slices_Equal_Lock _ _ _ h12) (c_slices_Equal_Mail _ _ _ h15) ?_
    refine ez ?_
    refine an (rt ?_)
    cases h
    simp [Ret, TB, EN, *]
  replace h := ite_t b16 h
  obtain ⟨x17, h18, h⟩ := bind_some h
  rcases bcas x17 with b19 | b19
  · replace h := ite_f b19 h
    refine rgo ?_
    refine ec 20 ?_
    refine ec2 20 (c_impl_EqualStorages _ _ _ h5) (c_slices_EqualFunc_Page p0.Pages p1.Pages (fun z0 z1 => m_impl_equalPage z0 z1) 78 [] (fun z0 z1 r hr => c_impl_equalPage z0 z1 r hr) x7 h8) ?_
    refine ec2 20 (c_slices_Equal_Lock _ _ _ h12) (c_slices_Equal_Mail _ _ _ h15) ?_
    refine ez1 (c_slices_EqualFunc_Site p0.Sites p1.Sites (fun z0 z1 => m_impl_equalSites z0 z1) 82 [] (fun z0 z1 r hr => c_impl_equalSites z0 z1 r hr) x17 h18) ?_
    refine an (rt ?_)
    cases h
    simp [Ret, TB, EN, *]
  replace h := ite_t b19 h
  obtain ⟨x20, h21, h⟩ := bind_some h
  refine rgo ?_
  refine ec 20 ?_
  refine ec2 20 (c_impl_EqualStorages _ _ _ h5) (c_slices_EqualFunc_Page p0.Pages p1.Pages (fun z0 z1 => m_impl_equalPage z0 z1) 78 [] (fun z0 z1 r hr => c_impl_equalPage z0 z1 r hr) x7 h8) ?_
  refine ec2 20 (c_slices_Equal_Lock _ _ _ h12) (c_slices_Equal_Mail _ _ _ h15) ?_
  refine ez2 (c_slices_EqualFunc_Site p0.Sites p1.Sites (fun z0 z1 => m_impl_equalSites z0 z1) 82 [] (fun z0 z1 r hr => c_impl_equalSites z0 z1 r hr) x17 h18) (c_slices_EqualFunc_Server p0.Servers p1.Servers (fun z0 z1 => m_impl_EqualServers z0 z1) 84 [] (fun z0 z1 r hr => c_impl_EqualServers z0 z1 r hr) x20 h21) ?_
  refine an (rt ?_)
  cases h
  simp [Ret, TB, EN, *]

end Go.Proofs.YtgemmnkhddlhpaaGreat.gen
