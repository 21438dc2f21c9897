/-
  Helper text: walks: each function's contract out of its model. No conditions beyond those of each contract.
-/
import Derived.Test.YtgemmnkhddlhpaaGreatEqualWorldsTi
import Derived.Test.YtgemmnkhddlhpaaGreatEqualWorldsWto0
import Derived.Test.YtgemmnkhddlhpaaGreatEqualWorldsWto1
namespace Go.Proofs.YtgemmnkhddlhpaaGreat.gen
open Go Go.Sh
set_option linter.unusedVariables false
set_option linter.unusedSimpArgs false
set_option maxRecDepth 20000 in
set_option maxHeartbeats 4000000 in
theorem c_laws_toSiteS (p0 : List M.Site) (r : (List M.Site)) (h : m_laws_toSiteS p0 = some r) : SCalls Tryz.prog 74 [(false, [.sl (List.map M.Site.en p0)])] [(false, [.own 181 4 (List.map M.Site.en r)])] := by
  unfold m_laws_toSiteS at h
  refine scalls_n (N := 23) (vars := [.tmp 2]) Tryz.func74 rfl rfl rfl (by decide +kernel) (Nat.le_of_ble_eq_true rfl) fun base wd => ?_
  refine sq (rn ?_)
  refine an (sq ?_)
  obtain ⟨x1, h2, h⟩ := bind_some h
  refine rn1 (mkL_must h2) ?_
  refine an (sq (sq ?_))
  refine cu (fun s => s.t 0 = .v false [.dat (.sl (List.map M.Site.en p0))] ∧ s.t 3 = .v false [.row 100007 1] ∧ s.h 100007 = (1, .row 181 4 (List.map M.Site.en (List.replicate (List.length p0 : Int).toNat (⟨(⟨#[]⟩ : ByteArray), 0, ([] : List ByteArray), false⟩ : M.Site))) true) ∧ True) ?_
  rintro s3 ⟨f4, f5, f6, _⟩
  refine rn ?_
  refine an (bk ?_)
  refine SW_loop (fun m s => ∃ v4 : Int, ∃ r7 : List M.Site, s.t 0 = .v false [.dat (.sl (List.map M.Site.en p0))] ∧ s.t 3 = .v false [.row 100007 1] ∧ s.t 4 = .v false [.dat (.int .i64 v4)] ∧ s.h 100007 = (1, .row 181 4 (List.map M.Site.en r7) true) ∧ m_laws_toSiteS_L1 p0 m v4 r7 = some r) fuel ?_ ?_
  · refine ⟨0, (List.replicate (List.length p0 : Int).toNat (⟨(⟨#[]⟩ : ByteArray), 0, ([] : List ByteArray), false⟩ : M.Site)), ?_, ?_, ?_, ?_, h⟩
    all_goals simp +decide only [F, reduceIte, Nat.reduceAdd, Bool.not_true, Bool.not_false, EN, *, -h]
  rintro mL1 s7 ⟨v4, r7, f8, f9, f10, f11, h⟩
  rcases mL1 with _ | mL1
  · exact absurd h (by simp [m_laws_toSiteS_L1])
  simp only [m_laws_toSiteS_L1] at h
  refine sq (sq (rn ?_))
  refine an ?_
  rcases bcas (decide (v4 < (List.length p0 : Int))) with b12 | b12
  · replace h := ite_f b12 h
    refine cf (xt (aft_cx (aft_ix (aft_x (an (sq (rn ?_)))))))
    refine an (rt ?_)
    cases h
    simp [Ret, TB, EN, *]
  replace h := ite_t b12 h
  refine ct (sk (an (sq (bk ?_))))
  obtain ⟨x13, h14, h⟩ := bind_some h
  obtain ⟨q15, q16, q17⟩ := idx_some h14
  obtain ⟨x18, h19, h⟩ := bind_some h
  obtain ⟨x20, h21, h⟩ := bind_some h
  obtain ⟨q22, q23, q24⟩ := idx_some h21
  refine rn1 (c_laws_toSite _ _ h19) ?_
  refine ab (an ?_)
  refine cu (fun s => s.t 0 = .v false [.dat (.sl (List.map M.Site.en p0))] ∧ s.t 3 = .v false [.row 100007 1] ∧ s.t 4 = .v false [.dat (.int .i64 v4)] ∧ s.h 100007 = (1, .row 181 4 (List.map M.Site.en (List.set r7 v4.toNat x18)) true) ∧ True) ?_
  rintro s25 ⟨f26, f27, f28, f29, _⟩
  refine rn ?_
  refine aft_i ⟨mL1, by omega, (IntKind.i64.wrap (v4 + 1)), (List.set r7 v4.toNat x18), ?_, ?_, ?_, ?_, h⟩
  all_goals simp +decide only [F, reduceIte, Nat.reduceAdd, Bool.not_true, Bool.not_false, EN, *, -h]

set_option maxRecDepth 20000 in
set_option maxHeartbeats 4000000 in
theorem c_laws_toApplied (p0 : M.Applied) (r : M.Applied) (h : m_laws_toApplied p0 = some r) : SCalls Tryz.prog 357 [(true, M.Applied.en p0)] [(true, [.ro (.int .i64 r.Device), .ro (.int .i64 r.Seq)])] := by
  unfold m_laws_toApplied at h
  simp only [M.Applied.en]
  refine scalls_n (N := 11) (vars := [.cell 2 257]) Tryz.func357 rfl rfl rfl (by decide +kernel) (Nat.le_of_ble_eq_true rfl) fun base wd => ?_
  refine sq (rn ?_)
  refine an (sq (rn ?_))
  refine an (sq (rn ?_))
  refine an (sq (rn ?_))
  refine an (sq (rn ?_))
  refine an (rt ?_)
  cases h
  simp [Ret, TB, EN, *]

set_option maxRecDepth 20000 in
set_option maxHeartbeats 4000000 in
theorem c_laws_toAppliedS (p0 : List M.Applied) (r : (List M.Applied)) (h : m_laws_toAppliedS p0 = some r) : SCalls Tryz.prog 278 [(false, [.sl (List.map M.Applied.en p0)])] [(false, [.own 257 2 (List.map M.Applied.en r)])] := by
  unfold m_laws_toAppliedS at h
  refine scalls_n (N := 23) (vars := [.tmp 2]) Tryz.func278 rfl rfl rfl (by decide +kernel) (Nat.le_of_ble_eq_true rfl) fun base wd => ?_
  refine sq (rn ?_)
  refine an (sq ?_)
  obtain ⟨x1, h2, h⟩ := bind_some h
  refine rn1 (mkL_must h2) ?_
  refine an (sq (sq ?_))
  refine cu (fun s => s.t 0 = .v false [.dat (.sl (List.map M.Applied.en p0))] ∧ s.t 3 = .v false [.row 100007 1] ∧ s.h 100007 = (1, .row 257 2 (List.map M.Applied.en (List.replicate (List.length p0 : Int).toNat (⟨0, 0⟩ : M.Applied))) true) ∧ True) ?_
  rintro s3 ⟨f4, f5, f6, _⟩
  refine rn ?_
  refine an (bk ?_)
  refine SW_loop (fun m s => ∃ v4 : Int, ∃ r7 : List M.Applied, s.t 0 = .v false [.dat (.sl (List.map M.Applied.en p0))] ∧ s.t 3 = .v false [.row 100007 1] ∧ s.t 4 = .v false [.dat (.int .i64 v4)] ∧ s.h 100007 = (1, .row 257 2 (List.map M.Applied.en r7) true) ∧ m_laws_toAppliedS_L1 p0 m v4 r7 = some r) fuel ?_ ?_
  · refine ⟨0, (List.replicate (List.length p0 : Int).toNat (⟨0, 0⟩ : M.Applied)), ?_, ?_, ?_, ?_, h⟩
    all_goals simp +decide only [F, reduceIte, Nat.reduceAdd, Bool.not_true, Bool.not_false, EN, *, -h]
  rintro mL1 s7 ⟨v4, r7, f8, f9, f10, f11, h⟩
  rcases mL1 with _ | mL1
  · exact absurd h (by simp [m_laws_toAppliedS_L1])
  simp only [m_laws_toAppliedS_L1] at h
  refine sq (sq (rn ?_))
  refine an ?_
  rcases bcas (decide (v4 < (List.length p0 : Int))) with b12 | b12
  · replace h := ite_f b12 h
    refine cf (xt (aft_cx (aft_ix (aft_x (an (sq (rn ?_)))))))
    refine an (rt ?_)
    cases h
    simp [Ret, TB, EN, *]
  replace h := ite_t b12 h
  refine ct (sk (an (sq (bk ?_))))
  obtain ⟨x13, h14, h⟩ := bind_some h
  obtain ⟨q15, q16, q17⟩ := idx_some h14
  obtain ⟨x18, h19, h⟩ := bind_some h
  obtain ⟨x20, h21, h⟩ := bind_some h
  obtain ⟨q22, q23, q24⟩ := idx_some h21
  refine rn1 (c_laws_toApplied _ _ h19) ?_
  refine ab (an ?_)
  refine cu (fun s => s.t 0 = .v false [.dat (.sl (List.map M.Applied.en p0))] ∧ s.t 3 = .v false [.row 100007 1] ∧ s.t 4 = .v false [.dat (.int .i64 v4)] ∧ s.h 100007 = (1, .row 257 2 (List.map M.Applied.en (List.set r7 v4.toNat x18)) true) ∧ True) ?_
  rintro s25 ⟨f26, f27, f28, f29, _⟩
  refine rn ?_
  refine aft_i ⟨mL1, by omega, (IntKind.i64.wrap (v4 + 1)), (List.set r7 v4.toNat x18), ?_, ?_, ?_, ?_, h⟩
  all_goals simp +decide only [F, reduceIte, Nat.reduceAdd, Bool.not_true, Bool.not_false, EN, *, -h]

set_option maxRecDepth 20000 in
set_option maxHeartbeats 4000000 in
theorem c_laws_toServer (p0 : M.Server) (r : M.Server) (h : m_laws_toServer p0 = some r) : SCalls Tryz.prog 175 [(true, M.Server.en p0)] [(true, [.ro (.str r.Store.Name), .own 315 4 (List.map M.Item.en r.Store.Items), .ro (.int .i64 r.Store.Auto), .own 257 2 (List.map M.Applied.en r.Applied), .own 261 7 (List.map M.Write.en r.Changes)])] := by
  unfold m_laws_toServer at h
  simp only [M.Server.en]
  refine scalls_n (N := 17) (vars := [.cell 2 164]) Tryz.func175 rfl rfl rfl (by decide +kernel) (Nat.le_of_ble_eq_true rfl) fun base wd => ?_
  refine sq (rn ?_)
  refine an (sq (rn ?_))
  refine an (sq ?_)
  obtain ⟨x1, h2, h⟩ := bind_some h
  refine rn1 (c_laws_toStore _ _ h2) ?_
  refine an (sq ?_)
  obtain ⟨x3, h4, h⟩ := bind_some h
  refine rn1 (c_laws_toAppliedS _ _ h4) ?_
  refine an (sq ?_)
  obtain ⟨x5, h6, h⟩ := bind_some h
  refine rn1 (c_laws_toWriteS _ _ h6) ?_
  refine an (sq (rn ?_))
  refine an (rt ?_)
  cases h
  simp [Ret, TB, EN, *]

set_option maxRecDepth 20000 in
set_option maxHeartbeats 4000000 in
theorem c_laws_toServerS (p0 : List M.Server) (r : (List M.Server)) (h : m_laws_toServerS p0 = some r) : SCalls Tryz.prog 75 [(false, [.sl (List.map M.Server.en p0)])] [(false, [.own 164 5 (List.map M.Server.en r)])] := by
  unfold m_laws_toServerS at h
  refine scalls_n (N := 23) (vars := [.tmp 2]) Tryz.func75 rfl rfl rfl (by decide +kernel) (Nat.le_of_ble_eq_true rfl) fun base wd => ?_
  refine sq (rn ?_)
  refine an (sq ?_)
  obtain ⟨x1, h2, h⟩ := bind_some h
  refine rn1 (mkL_must h2) ?_
  refine an (sq (sq ?_))
  refine cu (fun s => s.t 0 = .v false [.dat (.sl (List.map M.Server.en p0))] ∧ s.t 3 = .v false [.row 100007 1] ∧ s.h 100007 = (1, .row 164 5 (List.map M.Server.en (List.replicate (List.length p0 : Int).toNat (⟨(⟨(⟨#[]⟩ : ByteArray), ([] : List M.Item), 0⟩ : M.Store), ([] : List M.Applied), ([] : List M.Write)⟩ : M.Server))) true) ∧ True) ?_
  rintro s3 ⟨f4, f5, f6, _⟩
  refine rn ?_
  refine an (bk ?_)
  refine SW_loop (fun m s => ∃ v4 : Int, ∃ r7 : List M.Server, s.t 0 = .v false [.dat (.sl (List.map M.Server.en p0))] ∧ s.t 3 = .v false [.row 100007 1] ∧ s.t 4 = .v false [.dat (.int .i64 v4)] ∧ s.h 100007 = (1, .row 164 5 (List.map M.Server.en r7) true) ∧ m_laws_toServerS_L1 p0 m v4 r7 = some r) fuel ?_ ?_
  · refine ⟨0, (List.replicate (List.length p0 : Int).toNat (⟨(⟨(⟨#[]⟩ : ByteArray), ([] : List M.Item), 0⟩ : M.Store), ([] : List M.Applied), ([] : List M.Write)⟩ : M.Server)), ?_, ?_, ?_, ?_, h⟩
    all_goals simp +decide only [F, reduceIte, Nat.reduceAdd, Bool.not_true, Bool.not_false, EN, *, -h]
  rintro mL1 s7 ⟨v4, r7, f8, f9, f10, f11, h⟩
  rcases mL1 with _ | mL1
  · exact absurd h (by simp [m_laws_toServerS_L1])
  simp only [m_laws_toServerS_L1] at h
  refine sq (sq (rn ?_))
  refine an ?_
  rcases bcas (decide (v4 < (List.length p0 : Int))) with b12 | b12
  · replace h := ite_f b12 h
    refine cf (xt (aft_cx (aft_ix (aft_x (an (sq (rn ?_)))))))
    refine an (rt ?_)
    cases h
    simp [Ret, TB, EN, *]
  replace h := ite_t b12 h
  refine ct (sk (an (sq (bk ?_))))
  obtain ⟨x13, h14, h⟩ := bind_some h
  obtain ⟨q15, q16, q17⟩ := idx_some h14
  obtain ⟨x18, h19, h⟩ := bind_some h
  obtain ⟨x20, h21, h⟩ := bind_some h
  obtain ⟨q22, q23, q24⟩ := idx_some h21
  refine rn1 (c_laws_toServer _ _ h19) ?_
  refine ab (an ?_)
  refine cu (fun s => s.t 0 = .v false [.dat (.sl (List.map M.Server.en p0))] ∧ s.t 3 = .v false [.row 100007 1] ∧ s.t 4 = .v false [.dat (.int .i64 v4)] ∧ s.h 100007 = (1, .row 164 5 (List.map M.Server.en (List.set r7 v4.toNat x18)) true) ∧ True) ?_
  rintro s25 ⟨f26, f27, f28, f29, _⟩
  refine rn ?_
  refine aft_i ⟨mL1, by omega, (IntKind.i64.wrap (v4 + 1)), (List.set r7 v4.toNat x18), ?_, ?_, ?_, ?_, h⟩
  all_goals simp +decide only [F, reduceIte, Nat.reduceAdd, Bool.not_true, Bool.not_false, EN, *, -h]

set_option maxRecDepth 20000 in
set_option maxHeartbeats 4000000 in
theorem c_laws_toWorld (p0 : M.World) (r : M.World) (h : m_laws_toWorld p0 = some r) : SCalls Tryz.prog 17 [(true, M.World.en p0)] [(true, [.ro (.int .i64 r.Now), .ro (.bool r.Online), .ro (.int .i64 r.Device), .own 45 24 (List.map M.Bucket.en r.Storage.Buckets), .own 148 11 (List.map M.Page.en r.Pages), .ro (.int .i64 r.NextPage), .own 174 4 (List.map M.Lock.en r.Locks.Locks), .own 177 3 (List.map M.Mail.en r.Channel.Mails), .own 181 4 (List.map M.Site.en r.Sites), .own 164 5 (List.map M.Server.en r.Servers)])] := by
  unfold m_laws_toWorld at h
  simp only [M.World.en]
  refine scalls_n (N := 41) (vars := [.cell 2 80]) Tryz.func17 rfl rfl rfl (by decide +kernel) (Nat.le_of_ble_eq_true rfl) fun base wd => ?_
  refine sq (rn ?_)
  refine an (sq (rn ?_))
  refine an (sq (rn ?_))
  refine an (sq (rn ?_))
  refine an (sq (rn ?_))
  refine an (sq ?_)
  obtain ⟨x1, h2, h⟩ := bind_some h
  refine rn1 (c_laws_toStorage _ _ h2) ?_
  refine an (sq ?_)
  obtain ⟨x3, h4, h⟩ := bind_some h
  refine rn1 (c_laws_toPageS _ _ h4) ?_
  refine an (sq (rn ?_))
  refine an (sq ?_)
  obtain ⟨x5, h6, h⟩ := bind_some h
  refine rn1 (c_laws_toLockTable _ _ h6) ?_
  refine an (sq ?_)
  obtain ⟨x7, h8, h⟩ := bind_some h
  refine rn1 (c_laws_toChannel _ _ h8) ?_
  refine an (sq ?_)
  obtain ⟨x9, h10, h⟩ := bind_some h
  refine rn1 (c_laws_toSiteS _ _ h10) ?_
  refine an (sq ?_)
  obtain ⟨x11, h12, h⟩ := bind_some h
  refine rn1 (c_laws_toServerS _ _ h12) ?_
  refine an (sq (rn ?_))
  refine an (rt ?_)
  cases h
  simp [Ret, TB, EN, *]

end Go.Proofs.YtgemmnkhddlhpaaGreat.gen
