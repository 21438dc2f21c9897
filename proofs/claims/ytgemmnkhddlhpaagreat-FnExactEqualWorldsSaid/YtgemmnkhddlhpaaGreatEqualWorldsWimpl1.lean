/-
  Helper text: walks: each function's contract out of its model. No conditions beyond those of each contract.
-/
import Derived.Test.YtgemmnkhddlhpaaGreatEqualWorldsTi
import Derived.Test.YtgemmnkhddlhpaaGreatEqualWorldsWimpl0
namespace Go.Proofs.YtgemmnkhddlhpaaGreat.gen
open Go Go.Sh
set_option linter.unusedVariables false
set_option linter.unusedSimpArgs false
set_option maxRecDepth 20000 in
set_option maxHeartbeats 4000000 in
theorem c_impl_EqualOutboxes (p0 : M.Outbox) (p1 : M.Outbox) (r : Bool) (h : m_impl_EqualOutboxes p0 p1 = some r) : SCalls Tryz.prog 407 [(true, M.Outbox.en p0), (true, M.Outbox.en p1)] [(false, [.ro (.bool r)])] := by
  unfold m_impl_EqualOutboxes at h
  simp only [M.Outbox.en]
  refine scalls_n (N := 24) (vars := [.tmp 4]) Tryz.func407 rfl rfl rfl (by decide +kernel) (Nat.le_of_ble_eq_true rfl) fun base wd => ?_
  refine sq (rn ?_)
  refine an (sq ?_)
  rcases bcas (p0.Device == p1.Device) with b1 | b1
  · replace h := ite_f b1 h
    refine rn ?_
    refine an (rt ?_)
    cases h
    simp [Ret, TB, EN, *]
  replace h := ite_t b1 h
  rcases bcas (p0.Next == p1.Next) with b2 | b2
  · replace h := ite_f b2 h
    refine rn ?_
    refine an (rt ?_)
    cases h
    simp [Ret, TB, EN, *]
  replace h := ite_t b2 h
  obtain ⟨x3, h4, h⟩ := bind_some h
  refine rn1 (c_slices_Equal_Write _ _ _ h4) ?_
  refine an (rt ?_)
  cases h
  simp [Ret, TB, EN, *]

set_option maxRecDepth 20000 in
set_option maxHeartbeats 4000000 in
theorem c_impl_EqualSyncs (p0 : M.Sync) (p1 : M.Sync) (r : Bool) (h : m_impl_EqualSyncs p0 p1 = some r) : SCalls Tryz.prog 362 [(true, M.Sync.en p0), (true, M.Sync.en p1)] [(false, [.ro (.bool r)])] := by
  unfold m_impl_EqualSyncs at h
  simp only [M.Sync.en]
  refine scalls_n (N := 24) (vars := [.tmp 4]) Tryz.func362 rfl rfl rfl (by decide +kernel) (Nat.le_of_ble_eq_true rfl) fun base wd => ?_
  refine sq (rn ?_)
  refine an (sq ?_)
  obtain ⟨x1, h2, h⟩ := bind_some h
  rcases bcas x1 with b3 | b3
  · replace h := ite_f b3 h
    refine rn1 (c_impl_EqualOutboxes _ _ _ h2) ?_
    refine an (rt ?_)
    cases h
    simp [Ret, TB, EN, *]
  replace h := ite_t b3 h
  rcases bcase (p0.Tries == p1.Tries) with b4 | b4
  · replace h := ite_t b4 h
    refine rn1 (c_impl_EqualOutboxes _ _ _ h2) ?_
    refine an (rt ?_)
    cases h
    simp [Ret, TB, EN, *]
  replace h := ite_f b4 h
  refine rn1 (c_impl_EqualOutboxes _ _ _ h2) ?_
  refine an (rt ?_)
  cases h
  simp [Ret, TB, EN, *]

set_option maxRecDepth 20000 in
set_option maxHeartbeats 4000000 in
theorem c_impl_EqualReplicas (p0 : M.Replica) (p1 : M.Replica) (r : Bool) (h : m_impl_EqualReplicas p0 p1 = some r) : SCalls Tryz.prog 282 [(true, M.Replica.en p0), (true, M.Replica.en p1)] [(false, [.ro (.bool r)])] := by
  unfold m_impl_EqualReplicas at h
  simp only [M.Replica.en]
  refine scalls_n (N := 24) (vars := [.tmp 4]) Tryz.func282 rfl rfl rfl (by decide +kernel) (Nat.le_of_ble_eq_true rfl) fun base wd => ?_
  refine sq (rn ?_)
  refine an (sq ?_)
  obtain ⟨x1, h2, h⟩ := bind_some h
  rcases bcas x1 with b3 | b3
  · replace h := ite_f b3 h
    refine rn1 (c_impl_EqualStores _ _ _ h2) ?_
    refine an (rt ?_)
    cases h
    simp [Ret, TB, EN, *]
  replace h := ite_t b3 h
  rcases bcas (p0.Seen == p1.Seen) with b4 | b4
  · replace h := ite_f b4 h
    refine rn1 (c_impl_EqualStores _ _ _ h2) ?_
    refine an (rt ?_)
    cases h
    simp [Ret, TB, EN, *]
  replace h := ite_t b4 h
  obtain ⟨x5, h6, h⟩ := bind_some h
  refine rn2 (c_impl_EqualStores _ _ _ h2) (c_impl_EqualSyncs _ _ _ h6) ?_
  refine an (rt ?_)
  cases h
  simp [Ret, TB, EN, *]

set_option maxRecDepth 20000 in
set_option maxHeartbeats 4000000 in
theorem c_impl_EqualBuckets (p0 : M.Bucket) (p1 : M.Bucket) (r : Bool) (h : m_impl_EqualBuckets p0 p1 = some r) : SCalls Tryz.prog 177 [(true, M.Bucket.en p0), (true, M.Bucket.en p1)] [(false, [.ro (.bool r)])] := by
  unfold m_impl_EqualBuckets at h
  simp only [M.Bucket.en]
  refine scalls_n (N := 59) (vars := [.tmp 4]) Tryz.func177 rfl rfl rfl (by decide +kernel) (Nat.le_of_ble_eq_true rfl) fun base wd => ?_
  refine sq (rn ?_)
  refine an (sq ?_)
  rcases bcas (p0.Site.toList == p1.Site.toList) with b1 | b1
  · replace h := ite_f b1 h
    refine rgo ?_
    refine ec 20 ?_
    refine ec 20 ?_
    refine ez ?_
    refine an (rt ?_)
    cases h
    simp [Ret, TB, EN, *]
  replace h := ite_t b1 h
  rcases bcas (p0.Top.toList == p1.Top.toList) with b2 | b2
  · replace h := ite_f b2 h
    refine rgo ?_
    refine ec 20 ?_
    refine ec 20 ?_
    refine ez ?_
    refine an (rt ?_)
    cases h
    simp [Ret, TB, EN, *]
  replace h := ite_t b2 h
  rcases bcas ((p0.Registration.Site.toList == p1.Registration.Site.toList) && ((p0.Registration.Installing == p1.Registration.Installing) && ((p0.Registration.Waiting == p1.Registration.Waiting) && (p0.Registration.Active == p1.Registration.Active)))) with b3 | b3
  · replace h := ite_f b3 h
    refine rgo ?_
    refine ec 20 ?_
    refine ec 20 ?_
    refine ez ?_
    refine an (rt ?_)
    cases h
    simp [Ret, TB, EN, *]
  replace h := ite_t b3 h
  obtain ⟨x4, h5, h⟩ := bind_some h
  rcases bcas x4 with b6 | b6
  · replace h := ite_f b6 h
    refine rgo ?_
    refine ec 20 ?_
    refine ec1 20 (c_impl_EqualCacheSets _ _ _ h5) ?_
    refine ez ?_
    refine an (rt ?_)
    cases h
    simp [Ret, TB, EN, *]
  replace h := ite_t b6 h
  obtain ⟨x7, h8, h⟩ := bind_some h
  rcases bcas x7 with b9 | b9
  · replace h := ite_f b9 h
    refine rgo ?_
    refine ec 20 ?_
    refine ec2 20 (c_impl_EqualCacheSets _ _ _ h5) (c_impl_EqualDisks _ _ _ h8) ?_
    refine ez ?_
    refine an (rt ?_)
    cases h
    simp [Ret, TB, EN, *]
  replace h := ite_t b9 h
  obtain ⟨x10, h11, h⟩ := bind_some h
  rcases bcas x10 with b12 | b12
  · replace h := ite_f b12 h
    refine rgo ?_
    refine ec 20 ?_
    refine ec2 18 (c_impl_EqualCacheSets _ _ _ h5) (c_impl_EqualDisks _ _ _ h8) ?_
    refine ez1 (c_impl_EqualReplicas _ _ _ h11) ?_
    refine an (rt ?_)
    cases h
    simp [Ret, TB, EN, *]
  replace h := ite_t b12 h
  rcases bcase (p0.LastUsed == p1.LastUsed) with b13 | b13
  · replace h := ite_t b13 h
    refine rgo ?_
    refine ec 20 ?_
    refine ec2 18 (c_impl_EqualCacheSets _ _ _ h5) (c_impl_EqualDisks _ _ _ h8) ?_
    refine ez1 (c_impl_EqualReplicas _ _ _ h11) ?_
    refine an (rt ?_)
    cases h
    simp [Ret, TB, EN, *]
  replace h := ite_f b13 h
  refine rgo ?_
  refine ec 20 ?_
  refine ec2 18 (c_impl_EqualCacheSets _ _ _ h5) (c_impl_EqualDisks _ _ _ h8) ?_
  refine ez1 (c_impl_EqualReplicas _ _ _ h11) ?_
  refine an (rt ?_)
  cases h
  simp [Ret, TB, EN, *]

set_option maxRecDepth 20000 in
set_option maxHeartbeats 4000000 in
theorem c_impl_EqualStorages (p0 : M.Storage) (p1 : M.Storage) (r : Bool) (h : m_impl_EqualStorages p0 p1 = some r) : SCalls Tryz.prog 76 [(true, M.Storage.en p0), (true, M.Storage.en p1)] [(false, [.ro (.bool r)])] := by
  unfold m_impl_EqualStorages at h
  simp only [M.Storage.en]
  refine scalls_n (N := 10) (vars := [.tmp 4]) Tryz.func76 rfl rfl rfl (by decide +kernel) (Nat.le_of_ble_eq_true rfl) fun base wd => ?_
  refine sq (rn ?_)
  refine an (sq ?_)
  obtain ⟨x1, h2, h⟩ := bind_some h
  refine rn1 (c_slices_EqualFunc_Bucket p0.Buckets p1.Buckets (fun z0 z1 => m_impl_EqualBuckets z0 z1) 177 [] (fun z0 z1 r hr => c_impl_EqualBuckets z0 z1 r hr) x1 h2) ?_
  refine an (rt ?_)
  cases h
  simp [Ret, TB, EN, *]

set_option maxRecDepth 20000 in
set_option maxHeartbeats 4000000 in
theorem c_slices_EqualFunc_Page (p0 : List M.Page) (p1 : List M.Page) (p2 : M.Page → M.Page → Option Bool) (f2_ : FuncId) (k2_ : List D) (hp2 : ∀ z0 z1 r, p2 z0 z1 = some r → SCalls Tryz.prog f2_ ((true, M.Page.en z0) :: (true, M.Page.en z1) ::  k2_.map fun c => (false, [c])) [(false, [.ro (.bool r)])]) (r : Bool) (h : m_slices_EqualFunc_Page p0 p1 p2 = some r) : SCalls Tryz.prog 77 [(false, [.sl (List.map M.Page.en p0)]), (false, [.sl (List.map M.Page.en p1)]), (false, [.fn f2_ k2_])] [(false, [.ro (.bool r)])] := by
  unfold m_slices_EqualFunc_Page at h
  refine scalls_n (N := 32) (vars := [.tmp 6]) Tryz.func77 rfl rfl rfl (by decide +kernel) (Nat.le_of_ble_eq_true rfl) fun base wd => ?_
  refine sq (rn ?_)
  refine an (sq (sq (rn ?_)))
  refine an ?_
  rcases bcase ((List.length p0 : Int) != (List.length p1 : Int)) with b1 | b1
  · replace h := ite_t b1 h
    refine ct (sq (rn ?_))
    refine an (rt ?_)
    cases h
    simp [Ret, TB, EN, *]
  replace h := ite_f b1 h
  refine cf (sk (an (sq (sq (rn ?_)))))
  refine an (bk ?_)
  refine SW_loop (fun m s => ∃ v17 : Int, s.t 1 = .v false [.dat (.sl (List.map M.Page.en p1))] ∧ s.t 2 = .v false [.dat (.fn f2_ k2_)] ∧ s.t 15 = .v false [.dat (.sl (List.map M.Page.en p0))] ∧ s.t 16 = .v false [.dat (.int .i64 (List.length p0 : Int))] ∧ s.t 17 = .v false [.dat (.int .i64 v17)] ∧ m_slices_EqualFunc_Page_L1 p0 p1 p2 m v17 = some r) fuel ?_ ?_
  · refine ⟨0, ?_, ?_, ?_, ?_, ?_, h⟩
    all_goals simp +decide only [F, reduceIte, Nat.reduceAdd, Bool.not_true, Bool.not_false, EN, *, -h]
  rintro mL1 s2 ⟨v17, f3, f4, f5, f6, f7, h⟩
  rcases mL1 with _ | mL1
  · exact absurd h (by simp [m_slices_EqualFunc_Page_L1])
  simp only [m_slices_EqualFunc_Page_L1] at h
  refine sq (rn ?_)
  refine an (sq ?_)
  rcases bcas (decide (v17 < (List.length p0 : Int))) with b8 | b8
  · replace h := ite_f b8 h
    refine cf (xt (aft_cx (aft_ix (aft_x (an (sq (rn ?_)))))))
    refine an (rt ?_)
    cases h
    simp [Ret, TB, EN, *]
  replace h := ite_t b8 h
  refine ct (sk (an (sq (bk (sq ?_)))))
  obtain ⟨x9, h10, h⟩ := bind_some h
  obtain ⟨q11, q12, q13⟩ := idx_some h10
  refine rn ?_
  refine an (sq ?_)
  obtain ⟨x14, h15, h⟩ := bind_some h
  obtain ⟨q16, q17, q18⟩ := idx_some h15
  refine rn ?_
  refine an (sq ?_)
  obtain ⟨x19, h20, h⟩ := bind_some h
  refine rn1 (hp2 x9 x14 x19 h20) ?_
  refine an ?_
  rcases bcase (!x19) with b21 | b21
  · replace h := ite_t b21 h
    refine ct (sq (rn ?_))
    refine an (rt ?_)
    cases h
    simp [Ret, TB, EN, *]
  replace h := ite_f b21 h
  refine cf (sk (ab (an (rn ?_))))
  refine aft_i ⟨mL1, by omega, (IntKind.i64.wrap (v17 + 1)), ?_, ?_, ?_, ?_, ?_, h⟩
  all_goals simp +decide only [F, reduceIte, Nat.reduceAdd, Bool.not_true, Bool.not_false, EN, *, -h]

set_option maxRecDepth 20000 in
set_option maxHeartbeats 4000000 in
theorem c_slices_Equal_Loaded (p0 : List M.Loaded) (p1 : List M.Loaded) (r : Bool) (h : m_slices_Equal_Loaded p0 p1 = some r) : SCalls Tryz.prog 178 [(false, [.sl (List.map M.Loaded.en p0)]), (false, [.sl (List.map M.Loaded.en p1)])] [(false, [.ro (.bool r)])] := by
  unfold m_slices_Equal_Loaded at h
  refine scalls_n (N := 26) (vars := [.tmp 4]) Tryz.func178 rfl rfl rfl (by decide +kernel) (Nat.le_of_ble_eq_true rfl) fun base wd => ?_
  refine sq (rn ?_)
  refine an (sq (sq (rn ?_)))
  refine an ?_
  rcases bcase ((List.length p0 : Int) != (List.length p1 : Int)) with b1 | b1
  · replace h := ite_t b1 h
    refine ct (sq (rn ?_))
    refine an (rt ?_)
    cases h
    simp [Ret, TB, EN, *]
  replace h := ite_f b1 h
  refine cf (sk (an (sq (sq (rn ?_)))))
  refine an (bk ?_)
  refine SW_loop (fun m s => ∃ v13 : Int, s.t 0 = .v false [.dat (.sl (List.map M.Loaded.en p0))] ∧ s.t 1 = .v false [.dat (.sl (List.map M.Loaded.en p1))] ∧ s.t 12 = .v false [.dat (.int .i64 (List.length p0 : Int))] ∧ s.t 13 = .v false [.dat (.int .i64 v13)] ∧ m_slices_Equal_Loaded_L1 p0 p1 m v13 = some r) fuel ?_ ?_
  · refine ⟨0, ?_, ?_, ?_, ?_, h⟩
    all_goals simp +decide only [F, reduceIte, Nat.reduceAdd, Bool.not_true, Bool.not_false, EN, *, -h]
  rintro mL1 s2 ⟨v13, f3, f4, f5, f6, h⟩
  rcases mL1 with _ | mL1
  · exact absurd h (by simp [m_slices_Equal_Loaded_L1])
  simp only [m_slices_Equal_Loaded_L1] at h
  refine sq (rn ?_)
  refine an (sq ?_)
  rcases bcas (decide (v13 < (List.length p0 : Int))) with b7 | b7
  · replace h := ite_f b7 h
    refine cf (xt (aft_cx (aft_ix (aft_x (an (sq (rn ?_)))))))
    refine an (rt ?_)
    cases h
    simp [Ret, TB, EN, *]
  replace h := ite_t b7 h
  refine ct (sk (an (sq (bk (sq (rn ?_))))))
  refine an (sq ?_)
  obtain ⟨x8, h9, h⟩ := bind_some h
  obtain ⟨q10, q11, q12⟩ := idx_some h9
  obtain ⟨x13, h14, h⟩ := bind_some h
  obtain ⟨q15, q16, q17⟩ := idx_some h14
  refine rd mixed ?_
  refine an ?_
  rcases bcase (!((x8.Path.toList == x13.Path.toList) && (x8.Version == x13.Version))) with b18 | b18
  · replace h := ite_t b18 h
    refine ct (sq (rn ?_))
    refine an (rt ?_)
    cases h
    simp [Ret, TB, EN, *]
  replace h := ite_f b18 h
  refine cf (sk (ab (an (rn ?_))))
  refine aft_i ⟨mL1, by omega, (IntKind.i64.wrap (v13 + 1)), ?_, ?_, ?_, ?_, h⟩
  all_goals simp +decide only [F, reduceIte, Nat.reduceAdd, Bool.not_true, Bool.not_false, EN, *, -h]

set_option maxRecDepth 20000 in
set_option maxHeartbeats 4000000 in
theorem c_slices_Equal_Instr (p0 : List M.Instr) (p1 : List M.Instr) (r : Bool) (h : m_slices_Equal_Instr p0 p1 = some r) : SCalls Tryz.prog 283 [(false, [.sl (List.map M.Instr.en p0)]), (false, [.sl (List.map M.Instr.en p1)])] [(false, [.ro (.bool r)])] := by
  unfold m_slices_Equal_Instr at h
  refine scalls_n (N := 26) (vars := [.tmp 4]) Tryz.func283 rfl rfl rfl (by decide +kernel) (Nat.le_of_ble_eq_true rfl) fun base wd => ?_
  refine sq (rn ?_)
  refine an (sq (sq (rn ?_)))
  refine an ?_
  rcases bcase ((List.length p0 : Int) != (List.length p1 : Int)) with b1 | b1
  · replace h := ite_t b1 h
    refine ct (sq (rn ?_))
    refine an (rt ?_)
    cases h
    simp [Ret, TB, EN, *]
  replace h := ite_f b1 h
  refine cf (sk (an (sq (sq (rn ?_)))))
  refine an (bk ?_)
  refine SW_loop (fun m s => ∃ v13 : Int, s.t 0 = .v false [.dat (.sl (List.map M.Instr.en p0))] ∧ s.t 1 = .v false [.dat (.sl (List.map M.Instr.en p1))] ∧ s.t 12 = .v false [.dat (.int .i64 (List.length p0 : Int))] ∧ s.t 13 = .v false [.dat (.int .i64 v13)] ∧ m_slices_Equal_Instr_L1 p0 p1 m v13 = some r) fuel ?_ ?_
  · refine ⟨0, ?_, ?_, ?_, ?_, h⟩
    all_goals simp +decide only [F, reduceIte, Nat.reduceAdd, Bool.not_true, Bool.not_false, EN, *, -h]
  rintro mL1 s2 ⟨v13, f3, f4, f5, f6, h⟩
  rcases mL1 with _ | mL1
  · exact absurd h (by simp [m_slices_Equal_Instr_L1])
  simp only [m_slices_Equal_Instr_L1] at h
  refine sq (rn ?_)
  refine an (sq ?_)
  rcases bcas (decide (v13 < (List.length p0 : Int))) with b7 | b7
  · replace h := ite_f b7 h
    refine cf (xt (aft_cx (aft_ix (aft_x (an (sq (rn ?_)))))))
    refine an (rt ?_)
    cases h
    simp [Ret, TB, EN, *]
  replace h := ite_t b7 h
  refine ct (sk (an (sq (bk (sq (rn ?_))))))
  refine an (sq ?_)
  obtain ⟨x8, h9, h⟩ := bind_some h
  obtain ⟨q10, q11, q12⟩ := idx_some h9
  obtain ⟨x13, h14, h⟩ := bind_some h
  obtain ⟨q15, q16, q17⟩ := idx_some h14
  refine rd mixed ?_
  refine an ?_
  rcases bcase (!((x8.Kind == x13.Kind) && ((x8.R == x13.R) && ((x8.N == x13.N) && (x8.Text.toList == x13.Text.toList))))) with b18 | b18
  · replace h := ite_t b18 h
    refine ct (sq (rn ?_))
    refine an (rt ?_)
    cases h
    simp [Ret, TB, EN, *]
  replace h := ite_f b18 h
  refine cf (sk (ab (an (rn ?_))))
  refine aft_i ⟨mL1, by omega, (IntKind.i64.wrap (v13 + 1)), ?_, ?_, ?_, ?_, h⟩
  all_goals simp +decide only [F, reduceIte, Nat.reduceAdd, Bool.not_true, Bool.not_false, EN, *, -h]

set_option maxRecDepth 20000 in
set_option maxHeartbeats 4000000 in
theorem c_slices_Equal_int (p0 : List Int) (p1 : List Int) (r : Bool) (h : m_slices_Equal_int p0 p1 = some r) : SCalls Tryz.prog 284 [(false, [.sl (List.map enI p0)]), (false, [.sl (List.map enI p1)])] [(false, [.ro (.bool r)])] := by
  unfold m_slices_Equal_int at h
  refine scalls_n (N := 26) (vars := [.tmp 4]) Tryz.func284 rfl rfl rfl (by decide +kernel) (Nat.le_of_ble_eq_true rfl) fun base wd => ?_
  refine sq (rn ?_)
  refine an (sq (sq (rn ?_)))
  refine an ?_
  rcases bcase ((List.length p0 : Int) != (List.length p1 : Int)) with b1 | b1
  · replace h := ite_t b1 h
    refine ct (sq (rn ?_))
    refine an (rt ?_)
    cases h
    simp [Ret, TB, EN, *]
  replace h := ite_f b1 h
  refine cf (sk (an (sq (sq (rn ?_)))))
  refine an (bk ?_)
  refine SW_loop (fun m s => ∃ v13 : Int, s.t 0 = .v false [.dat (.sl (List.map enI p0))] ∧ s.t 1 = .v false [.dat (.sl (List.map enI p1))] ∧ s.t 12 = .v false [.dat (.int .i64 (List.length p0 : Int))] ∧ s.t 13 = .v false [.dat (.int .i64 v13)] ∧ m_slices_Equal_int_L1 p0 p1 m v13 = some r) fuel ?_ ?_
  · refine ⟨0, ?_, ?_, ?_, ?_, h⟩
    all_goals simp +decide only [F, reduceIte, Nat.reduceAdd, Bool.not_true, Bool.not_false, EN, *, -h]
  rintro mL1 s2 ⟨v13, f3, f4, f5, f6, h⟩
  rcases mL1 with _ | mL1
  · exact absurd h (by simp [m_slices_Equal_int_L1])
  simp only [m_slices_Equal_int_L1] at h
  refine sq (rn ?_)
  refine an (sq ?_)
  rcases bcas (decide (v13 < (List.length p0 : Int))) with b7 | b7
  · replace h := ite_f b7 h
    refine cf (xt (aft_cx (aft_ix (aft_x (an (sq (rn ?_)))))))
    refine an (rt ?_)
    cases h
    simp [Ret, TB, EN, *]
  replace h := ite_t b7 h
  refine ct (sk (an (sq (bk (sq (rn ?_))))))
  refine an (sq ?_)
  obtain ⟨x8, h9, h⟩ := bind_some h
  obtain ⟨q10, q11, q12⟩ := idx_some h9
  obtain ⟨x13, h14, h⟩ := bind_some h
  obtain ⟨q15, q16, q17⟩ := idx_some h14
  refine rd mixed ?_
  refine an ?_
  rcases bcase (x8 != x13) with b18 | b18
  · replace h := ite_t b18 h
    refine ct (sq (rn ?_))
    refine an (rt ?_)
    cases h
    simp [Ret, TB, EN, *]
  replace h := ite_f b18 h
  refine cf (sk (ab (an (rn ?_))))
  refine aft_i ⟨mL1, by omega, (IntKind.i64.wrap (v13 + 1)), ?_, ?_, ?_, ?_, h⟩
  all_goals simp +decide only [F, reduceIte, Nat.reduceAdd, Bool.not_true, Bool.not_false, EN, *, -h]

set_option maxRecDepth 20000 in
set_option maxHeartbeats 4000000 in
theorem c_impl_EqualMachines (p0 : M.Machine) (p1 : M.Machine) (r : Bool) (h : m_impl_EqualMachines p0 p1 = some r) : SCalls Tryz.prog 179 [(true, M.Machine.en p0), (true, M.Machine.en p1)] [(false, [.ro (.bool r)])] := by
  unfold m_impl_EqualMachines at h
  simp only [M.Machine.en]
  refine scalls_n (N := 45) (vars := [.tmp 4]) Tryz.func179 rfl rfl rfl (by decide +kernel) (Nat.le_of_ble_eq_true rfl) fun base wd => ?_
  refine sq (rn ?_)
  refine an (sq ?_)
  obtain ⟨x1, h2, h⟩ := bind_some h
  rcases bcas x1 with b3 | b3
  · replace h := ite_f b3 h
    refine rgo ?_
    refine ec1 20 (c_slices_Equal_Instr _ _ _ h2) ?_
    refine ec 20 ?_
    refine ez ?_
    refine an (rt ?_)
    cases h
    simp [Ret, TB, EN, *]
  replace h := ite_t b3 h
  rcases bcas (p0.Pc == p1.Pc) with b4 | b4
  · replace h := ite_f b4 h
    refine rgo ?_
    refine ec1 20 (c_slices_Equal_Instr _ _ _ h2) ?_
    refine ec 20 ?_
    refine ez ?_
    refine an (rt ?_)
    cases h
    simp [Ret, TB, EN, *]
  replace h := ite_t b4 h
  obtain ⟨x5, h6, h⟩ := bind_some h
  rcases bcas x5 with b7 | b7
  · replace h := ite_f b7 h
    refine rgo ?_
    refine ec2 20 (c_slices_Equal_Instr _ _ _ h2) (c_slices_Equal_int _ _ _ h6) ?_
    refine ec 20 ?_
    refine ez ?_
    refine an (rt ?_)
    cases h
    simp [Ret, TB, EN, *]
  replace h := ite_t b7 h
  rcases bcas (p0.Steps == p1.Steps) with b8 | b8
  · replace h := ite_f b8 h
    refine rgo ?_
    refine ec2 20 (c_slices_Equal_Instr _ _ _ h2) (c_slices_Equal_int _ _ _ h6) ?_
    refine ec 20 ?_
    refine ez ?_
    refine an (rt ?_)
    cases h
    simp [Ret, TB, EN, *]
  replace h := ite_t b8 h
  rcases bcase (p0.Done == p1.Done) with b9 | b9
  · replace h := ite_t b9 h
    refine rgo ?_
    refine ec2 20 (c_slices_Equal_Instr _ _ _ h2) (c_slices_Equal_int _ _ _ h6) ?_
    refine ec 20 ?_
    refine ez ?_
    refine an (rt ?_)
    cases h
    simp [Ret, TB, EN, *]
  replace h := ite_f b9 h
  refine rgo ?_
  refine ec2 20 (c_slices_Equal_Instr _ _ _ h2) (c_slices_Equal_int _ _ _ h6) ?_
  refine ec 20 ?_
  refine ez ?_
  refine an (rt ?_)
  cases h
  simp [Ret, TB, EN, *]

set_option maxRecDepth 20000 in
set_option maxHeartbeats 4000000 in
theorem c_impl_equalPage (p0 : M.Page) (p1 : M.Page) (r : Bool) (h : m_impl_equalPage p0 p1 = some r) : SCalls Tryz.prog 78 [(true, M.Page.en p0), (true, M.Page.en p1)] [(false, [.ro (.bool r)])] := by
  unfold m_impl_equalPage at h
  simp only [M.Page.en]
  refine scalls_n (N := 45) (vars := [.tmp 4]) Tryz.func78 rfl rfl rfl (by decide +kernel) (Nat.le_of_ble_eq_true rfl) fun base wd => ?_
  refine sq (rn ?_)
  refine an (sq ?_)
  rcases bcas (p0.Id == p1.Id) with b1 | b1
  · replace h := ite_f b1 h
    refine rgo ?_
    refine ec 20 ?_
    refine ec 20 ?_
    refine ez ?_
    refine an (rt ?_)
    cases h
    simp [Ret, TB, EN, *]
  replace h := ite_t b1 h
  rcases bcas (p0.Site.toList == p1.Site.toList) with b2 | b2
  · replace h := ite_f b2 h
    refine rgo ?_
    refine ec 20 ?_
    refine ec 20 ?_
    refine ez ?_
    refine an (rt ?_)
    cases h
    simp [Ret, TB, EN, *]
  replace h := ite_t b2 h
  rcases bcas (p0.Top.toList == p1.Top.toList) with b3 | b3
  · replace h := ite_f b3 h
    refine rgo ?_
    refine ec 20 ?_
    refine ec 20 ?_
    refine ez ?_
    refine an (rt ?_)
    cases h
    simp [Ret, TB, EN, *]
  replace h := ite_t b3 h
  rcases bcas (p0.Version == p1.Version) with b4 | b4
  · replace h := ite_f b4 h
    refine rgo ?_
    refine ec 20 ?_
    refine ec 20 ?_
    refine ez ?_
    refine an (rt ?_)
    cases h
    simp [Ret, TB, EN, *]
  replace h := ite_t b4 h
  obtain ⟨x5, h6, h⟩ := bind_some h
  rcases bcas x5 with b7 | b7
  · replace h := ite_f b7 h
    refine rgo ?_
    refine ec 20 ?_
    refine ec1 20 (c_slices_Equal_Loaded _ _ _ h6) ?_
    refine ez ?_
    refine an (rt ?_)
    cases h
    simp [Ret, TB, EN, *]
  replace h := ite_t b7 h
  obtain ⟨x8, h9, h⟩ := bind_some h
  refine rgo ?_
  refine ec 20 ?_
  refine ec2 20 (c_slices_Equal_Loaded _ _ _ h6) (c_impl_EqualMachines _ _ _ h9) ?_
  refine ez ?_
  refine an (rt ?_)
  cases h
  simp [Ret, TB, EN, *]

set_option maxRecDepth 20000 in
set_option maxHeartbeats 4000000 in
theorem c_slices_Equal_Lock (p0 : List M.Lock) (p1 : List M.Lock) (r : Bool) (h : m_slices_Equal_Lock p0 p1 = some r) : SCalls Tryz.prog 79 [(false, [.sl (List.map M.Lock.en p0)]), (false, [.sl (List.map M.Lock.en p1)])] [(false, [.ro (.bool r)])] := by
  unfold m_slices_Equal_Lock at h
  refine scalls_n (N := 26) (vars := [.tmp 4]) Tryz.func79 rfl rfl rfl (by decide +kernel) (Nat.le_of_ble_eq_true rfl) fun base wd => ?_
  refine sq (rn ?_)
  refine an (sq (sq (rn ?_)))
  refine an ?_
  rcases bcase ((List.length p0 : Int) != (List.length p1 : Int)) with b1 | b1
  · replace h := ite_t b1 h
    refine ct (sq (rn ?_))
    refine an (rt ?_)
    cases h
    simp [Ret, TB, EN, *]
  replace h := ite_f b1 h
  refine cf (sk (an (sq (sq (rn ?_)))))
  refine an (bk ?_)
  refine SW_loop (fun m s => ∃ v13 : Int, s.t 0 = .v false [.dat (.sl (List.map M.Lock.en p0))] ∧ s.t 1 = .v false [.dat (.sl (List.map M.Lock.en p1))] ∧ s.t 12 = .v false [.dat (.int .i64 (List.length p0 : Int))] ∧ s.t 13 = .v false [.dat (.int .i64 v13)] ∧ m_slices_Equal_Lock_L1 p0 p1 m v13 = some r) fuel ?_ ?_
  · refine ⟨0, ?_, ?_, ?_, ?_, h⟩
    all_goals simp +decide only [F, reduceIte, Nat.reduceAdd, Bool.not_true, Bool.not_false, EN, *, -h]
  rintro mL1 s2 ⟨v13, f3, f4, f5, f6, h⟩
  rcases mL1 with _ | mL1
  · exact absurd h (by simp [m_slices_Equal_Lock_L1])
  simp only [m_slices_Equal_Lock_L1] at h
  refine sq (rn ?_)
  refine an (sq ?_)
  rcases bcas (decide (v13 < (List.length p0 : Int))) with b7 | b7
  · replace h := ite_f b7 h
    refine cf (xt (aft_cx (aft_ix (aft_x (an (sq (rn ?_)))))))
    refine an (rt ?_)
    cases h
    simp [Ret, TB, EN, *]
  replace h := ite_t b7 h
  refine ct (sk (an (sq (bk (sq (rn ?_))))))
  refine an (sq ?_)
  obtain ⟨x8, h9, h⟩ := bind_some h
  obtain ⟨q10, q11, q12⟩ := idx_some h9
  obtain ⟨x13, h14, h⟩ := bind_some h
  obtain ⟨q15, q16, q17⟩ := idx_some h14
  refine rd mixed ?_
  refine an ?_
  rcases bcase (!((x8.Name.toList == x13.Name.toList) && ((x8.Page == x13.Page) && ((x8.Shared == x13.Shared) && (x8.Held == x13.Held))))) with b18 | b18
  · replace h := ite_t b18 h
    refine ct (sq (rn ?_))
    refine an (rt ?_)
    cases h
    simp [Ret, TB, EN, *]
  replace h := ite_f b18 h
  refine cf (sk (ab (an (rn ?_))))
  refine aft_i ⟨mL1, by omega, (IntKind.i64.wrap (v13 + 1)), ?_, ?_, ?_, ?_, h⟩
  all_goals simp +decide only [F, reduceIte, Nat.reduceAdd, Bool.not_true, Bool.not_false, EN, *, -h]

set_option maxRecDepth 20000 in
set_option maxHeartbeats 4000000 in
theorem c_slices_Equal_Mail (p0 : List M.Mail) (p1 : List M.Mail) (r : Bool) (h : m_slices_Equal_Mail p0 p1 = some r) : SCalls Tryz.prog 80 [(false, [.sl (List.map M.Mail.en p0)]), (false, [.sl (List.map M.Mail.en p1)])] [(false, [.ro (.bool r)])] := by
  unfold m_slices_Equal_Mail at h
  refine scalls_n (N := 26) (vars := [.tmp 4]) Tryz.func80 rfl rfl rfl (by decide +kernel) (Nat.le_of_ble_eq_true rfl) fun base wd => ?_
  refine sq (rn ?_)
  refine an (sq (sq (rn ?_)))
  refine an ?_
  rcases bcase ((List.length p0 : Int) != (List.length p1 : Int)) with b1 | b1
  · replace h := ite_t b1 h
    refine ct (sq (rn ?_))
    refine an (rt ?_)
    cases h
    simp [Ret, TB, EN, *]
  replace h := ite_f b1 h
  refine cf (sk (an (sq (sq (rn ?_)))))
  refine an (bk ?_)
  refine SW_loop (fun m s => ∃ v13 : Int, s.t 0 = .v false [.dat (.sl (List.map M.Mail.en p0))] ∧ s.t 1 = .v false [.dat (.sl (List.map M.Mail.en p1))] ∧ s.t 12 = .v false [.dat (.int .i64 (List.length p0 : Int))] ∧ s.t 13 = .v false [.dat (.int .i64 v13)] ∧ m_slices_Equal_Mail_L1 p0 p1 m v13 = some r) fuel ?_ ?_
  · refine ⟨0, ?_, ?_, ?_, ?_, h⟩
    all_goals simp +decide only [F, reduceIte, Nat.reduceAdd, Bool.not_true, Bool.not_false, EN, *, -h]
  rintro mL1 s2 ⟨v13, f3, f4, f5, f6, h⟩
  rcases mL1 with _ | mL1
  · exact absurd h (by simp [m_slices_Equal_Mail_L1])
  simp only [m_slices_Equal_Mail_L1] at h
  refine sq (rn ?_)
  refine an (sq ?_)
  rcases bcas (decide (v13 < (List.length p0 : Int))) with b7 | b7
  · replace h := ite_f b7 h
    refine cf (xt (aft_cx (aft_ix (aft_x (an (sq (rn ?_)))))))
    refine an (rt ?_)
    cases h
    simp [Ret, TB, EN, *]
  replace h := ite_t b7 h
  refine ct (sk (an (sq (bk (sq (rn ?_))))))
  refine an (sq ?_)
  obtain ⟨x8, h9, h⟩ := bind_some h
  obtain ⟨q10, q11, q12⟩ := idx_some h9
  obtain ⟨x13, h14, h⟩ := bind_some h
  obtain ⟨q15, q16, q17⟩ := idx_some h14
  refine rd mixed ?_
  refine an ?_
  rcases bcase (!((x8.To == x13.To) && ((x8.From == x13.From) && (x8.N == x13.N)))) with b18 | b18
  · replace h := ite_t b18 h
    refine ct (sq (rn ?_))
    refine an (rt ?_)
    cases h
    simp [Ret, TB, EN, *]
  replace h := ite_f b18 h
  refine cf (sk (ab (an (rn ?_))))
  refine aft_i ⟨mL1, by omega, (IntKind.i64.wrap (v13 + 1)), ?_, ?_, ?_, ?_, h⟩
  all_goals simp +decide only [F, reduceIte, Nat.reduceAdd, Bool.not_true, Bool.not_false, EN, *, -h]

set_option maxRecDepth 20000 in
set_option maxHeartbeats 4000000 in
theorem c_slices_EqualFunc_Site (p0 : List M.Site) (p1 : List M.Site) (p2 : M.Site → M.Site → Option Bool) (f2_ : FuncId) (k2_ : List D) (hp2 : ∀ z0 z1 r, p2 z0 z1 = some r → SCalls Tryz.prog f2_ ((true, M.Site.en z0) :: (true, M.Site.en z1) ::  k2_.map fun c => (false, [c])) [(false, [.ro (.bool r)])]) (r : Bool) (h : m_slices_EqualFunc_Site p0 p1 p2 = some r) : SCalls Tryz.prog 81 [(false, [.sl (List.map M.Site.en p0)]), (false, [.sl (List.map M.Site.en p1)]), (false, [.fn f2_ k2_])] [(false, [.ro (.bool r)])] := by
  unfold m_slices_EqualFunc_Site at h
  refine scalls_n (N := 32) (vars := [.tmp 6]) Tryz.func81 rfl rfl rfl (by decide +kernel) (Nat.le_of_ble_eq_true rfl) fun base wd => ?_
  refine sq (rn ?_)
  refine an (sq (sq (rn ?_)))
  refine an ?_
  rcases bcase ((List.length p0 : Int) != (List.length p1 : Int)) with b1 | b1
  · replace h := ite_t b1 h
    refine ct (sq (rn ?_))
    refine an (rt ?_)
    cases h
    simp [Ret, TB, EN, *]
  replace h := ite_f b1 h
  refine cf (sk (an (sq (sq (rn ?_)))))
  refine an (bk ?_)
  refine SW_loop (fun m s => ∃ v17 : Int, s.t 1 = .v false [.dat (.sl (List.map M.Site.en p1))] ∧ s.t 2 = .v false [.dat (.fn f2_ k2_)] ∧ s.t 15 = .v false [.dat (.sl (List.map M.Site.en p0))] ∧ s.t 16 = .v false [.dat (.int .i64 (List.length p0 : Int))] ∧ s.t 17 = .v false [.dat (.int .i64 v17)] ∧ m_slices_EqualFunc_Site_L1 p0 p1 p2 m v17 = some r) fuel ?_ ?_
  · refine ⟨0, ?_, ?_, ?_, ?_, ?_, h⟩
    all_goals simp +decide only [F, reduceIte, Nat.reduceAdd, Bool.not_true, Bool.not_false, EN, *, -h]
  rintro mL1 s2 ⟨v17, f3, f4, f5, f6, f7, h⟩
  rcases mL1 with _ | mL1
  · exact absurd h (by simp [m_slices_EqualFunc_Site_L1])
  simp only [m_slices_EqualFunc_Site_L1] at h
  refine sq (rn ?_)
  refine an (sq ?_)
  rcases bcas (decide (v17 < (List.length p0 : Int))) with b8 | b8
  · replace h := ite_f b8 h
    refine cf (xt (aft_cx (aft_ix (aft_x (an (sq (rn ?_)))))))
    refine an (rt ?_)
    cases h
    simp [Ret, TB, EN, *]
  replace h := ite_t b8 h
  refine ct (sk (an (sq (bk (sq ?_)))))
  obtain ⟨x9, h10, h⟩ := bind_some h
  obtain ⟨q11, q12, q13⟩ := idx_some h10
  refine rn ?_
  refine an (sq ?_)
  obtain ⟨x14, h15, h⟩ := bind_some h
  obtain ⟨q16, q17, q18⟩ := idx_some h15
  refine rn ?_
  refine an (sq ?_)
  obtain ⟨x19, h20, h⟩ := bind_some h
  refine rn1 (hp2 x9 x14 x19 h20) ?_
  refine an ?_
  rcases bcase (!x19) with b21 | b21
  · replace h := ite_t b21 h
    refine ct (sq (rn ?_))
    refine an (rt ?_)
    cases h
    simp [Ret, TB, EN, *]
  replace h := ite_f b21 h
  refine cf (sk (ab (an (rn ?_))))
  refine aft_i ⟨mL1, by omega, (IntKind.i64.wrap (v17 + 1)), ?_, ?_, ?_, ?_, ?_, h⟩
  all_goals simp +decide only [F, reduceIte, Nat.reduceAdd, Bool.not_true, Bool.not_false, EN, *, -h]

set_option maxRecDepth 20000 in
set_option maxHeartbeats 4000000 in
theorem c_slices_Equal_string (p0 : List ByteArray) (p1 : List ByteArray) (r : Bool) (h : m_slices_Equal_string p0 p1 = some r) : SCalls Tryz.prog 180 [(false, [.sl (List.map enS p0)]), (false, [.sl (List.map enS p1)])] [(false, [.ro (.bool r)])] := by
  unfold m_slices_Equal_string at h
  refine scalls_n (N := 26) (vars := [.tmp 4]) Tryz.func180 rfl rfl rfl (by decide +kernel) (Nat.le_of_ble_eq_true rfl) fun base wd => ?_
  refine sq (rn ?_)
  refine an (sq (sq (rn ?_)))
  refine an ?_
  rcases bcase ((List.length p0 : Int) != (List.length p1 : Int)) with b1 | b1
  · replace h := ite_t b1 h
    refine ct (sq (rn ?_))
    refine an (rt ?_)
    cases h
    simp [Ret, TB, EN, *]
  replace h := ite_f b1 h
  refine cf (sk (an (sq (sq (rn ?_)))))
  refine an (bk ?_)
  refine SW_loop (fun m s => ∃ v13 : Int, s.t 0 = .v false [.dat (.sl (List.map enS p0))] ∧ s.t 1 = .v false [.dat (.sl (List.map enS p1))] ∧ s.t 12 = .v false [.dat (.int .i64 (List.length p0 : Int))] ∧ s.t 13 = .v false [.dat (.int .i64 v13)] ∧ m_slices_Equal_string_L1 p0 p1 m v13 = some r) fuel ?_ ?_
  · refine ⟨0, ?_, ?_, ?_, ?_, h⟩
    all_goals simp +decide only [F, reduceIte, Nat.reduceAdd, Bool.not_true, Bool.not_false, EN, *, -h]
  rintro mL1 s2 ⟨v13, f3, f4, f5, f6, h⟩
  rcases mL1 with _ | mL1
  · exact absurd h (by simp [m_slices_Equal_string_L1])
  simp only [m_slices_Equal_string_L1] at h
  refine sq (rn ?_)
  refine an (sq ?_)
  rcases bcas (decide (v13 < (List.length p0 : Int))) with b7 | b7
  · replace h := ite_f b7 h
    refine cf (xt (aft_cx (aft_ix (aft_x (an (sq (rn ?_)))))))
    refine an (rt ?_)
    cases h
    simp [Ret, TB, EN, *]
  replace h := ite_t b7 h
  refine ct (sk (an (sq (bk (sq (rn ?_))))))
  refine an (sq ?_)
  obtain ⟨x8, h9, h⟩ := bind_some h
  obtain ⟨q10, q11, q12⟩ := idx_some h9
  obtain ⟨x13, h14, h⟩ := bind_some h
  obtain ⟨q15, q16, q17⟩ := idx_some h14
  refine rd mixed ?_
  refine an ?_
  rcases bcase (!(x8.toList == x13.toList)) with b18 | b18
  · replace h := ite_t b18 h
    refine ct (sq (rn ?_))
    refine an (rt ?_)
    cases h
    simp [Ret, TB, EN, *]
  replace h := ite_f b18 h
  refine cf (sk (ab (an (rn ?_))))
  refine aft_i ⟨mL1, by omega, (IntKind.i64.wrap (v13 + 1)), ?_, ?_, ?_, ?_, h⟩
  all_goals simp +decide only [F, reduceIte, Nat.reduceAdd, Bool.not_true, Bool.not_false, EN, *, -h]

set_option maxRecDepth 20000 in
set_option maxHeartbeats 4000000 in
theorem c_impl_equalSites (p0 : M.Site) (p1 : M.Site) (r : Bool) (h : m_impl_equalSites p0 p1 = some r) : SCalls Tryz.prog 82 [(true, M.Site.en p0), (true, M.Site.en p1)] [(false, [.ro (.bool r)])] := by
  unfold m_impl_equalSites at h
  simp only [M.Site.en]
  refine scalls_n (N := 31) (vars := [.tmp 4]) Tryz.func82 rfl rfl rfl (by decide +kernel) (Nat.le_of_ble_eq_true rfl) fun base wd => ?_
  refine sq (rn ?_)
  refine an (sq ?_)
  rcases bcas (p0.Name.toList == p1.Name.toList) with b1 | b1
  · replace h := ite_f b1 h
    refine rn ?_
    refine an (rt ?_)
    cases h
    simp [Ret, TB, EN, *]
  replace h := ite_t b1 h
  rcases bcas (p0.Version == p1.Version) with b2 | b2
  · replace h := ite_f b2 h
    refine rn ?_
    refine an (rt ?_)
    cases h
    simp [Ret, TB, EN, *]
  replace h := ite_t b2 h
  obtain ⟨x3, h4, h⟩ := bind_some h
  rcases bcase x3 with b5 | b5
  · replace h := ite_t b5 h
    refine rn1 (c_slices_Equal_string _ _ _ h4) ?_
    refine an (rt ?_)
    cases h
    simp [Ret, TB, EN, *]
  replace h := ite_f b5 h
  refine rn1 (c_slices_Equal_string _ _ _ h4) ?_
  refine an (rt ?_)
  cases h
  simp [Ret, TB, EN, *]

end Go.Proofs.YtgemmnkhddlhpaaGreat.gen
