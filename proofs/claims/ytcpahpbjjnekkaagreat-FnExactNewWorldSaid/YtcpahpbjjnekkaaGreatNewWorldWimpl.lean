/-
  Helper text: walks: each function's contract out of its model. No conditions beyond those of each contract.
-/
import Derived.Test.YtcpahpbjjnekkaaGreatNewWorldTi
namespace Go.Proofs.YtcpahpbjjnekkaaGreat.gen
open Go Go.Sh
set_option linter.unusedVariables false
set_option linter.unusedSimpArgs false
set_option maxRecDepth 20000 in
set_option maxHeartbeats 4000000 in
theorem c_impl_InRange (p0 : Int) (p1 : Int) (p2 : Int) (r : Bool) (h : m_impl_InRange p0 p1 p2 = some r) : SCalls Tryz.prog 49 [(false, [.int .i64 p0]), (false, [.int .i64 p1]), (false, [.int .i64 p2])] [(false, [.ro (.bool r)])] := by
  unfold m_impl_InRange at h
  refine scalls_n (N := 15) (vars := [.tmp 6]) Tryz.func49 rfl rfl rfl (by decide +kernel) (Nat.le_of_ble_eq_true rfl) fun base wd => ?_
  refine sq (rn ?_)
  refine an (sq ?_)
  rcases bcase (decide (p1 ≤ p0)) with b1 | b1
  · replace h := ite_t b1 h
    refine rn ?_
    refine an (rt ?_)
    cases h
    simp [Ret, TB, EN, *]
  replace h := ite_f b1 h
  refine rn ?_
  refine an (rt ?_)
  cases h
  simp [Ret, TB, EN, *]

set_option maxRecDepth 20000 in
set_option maxHeartbeats 4000000 in
theorem c_impl_NewWorld (p0 : Int) (r : M.World) (h : m_impl_NewWorld p0 = some r) : SCalls Tryz.prog 12 [(false, [.int .i64 p0])] [(true, [.ro (.int .i64 r.Now), .ro (.bool r.Online), .ro (.int .i64 r.Device), .own 145 24 (List.map M.Bucket.en r.Storage.Buckets), .own 70 11 (List.map M.Page.en r.Pages), .ro (.int .i64 r.NextPage), .own 162 4 (List.map M.Lock.en r.Locks.Locks), .own 165 3 (List.map M.Mail.en r.Channel.Mails), .own 99 4 (List.map M.Site.en r.Sites), .own 102 5 (List.map M.Server.en r.Servers)])] := by
  unfold m_impl_NewWorld at h
  refine scalls_n (N := 37) (vars := [.cell 2 35]) Tryz.func12 rfl rfl rfl (by decide +kernel) (Nat.le_of_ble_eq_true rfl) fun base wd => ?_
  refine sq (rn ?_)
  refine an (sq (sq ?_))
  obtain ⟨x1, h2, h⟩ := bind_some h
  refine rn1 (c_impl_InRange _ _ _ _ h2) ?_
  refine an ?_
  rcases bcase (!x1) with b3 | b3
  · replace h := ite_t b3 h
    refine ct (sq (rn ?_))
    refine an (rt ?_)
    cases h
    simp [Ret, TB, EN, *]
  replace h := ite_f b3 h
  refine cf (sk (an (sq (rn ?_))))
  refine an (sq (sq (rn ?_)))
  refine an (bk ?_)
  refine cu (fun s => s.t 2 = .v false [.bp 2 1 0] ∧ s.t 3 = .v false [.bp 3 1 0] ∧ s.t 12 = .v false [.row 100012 1] ∧ s.t 13 = .v false [.dat (.int .i64 ((3 : Nat) : Int))] ∧ s.t 14 = .v false [.dat (.int .i64 0)] ∧ s.h 2 = (1, .box 35 [.dat (.int .i64 0), .dat (.bool false), .dat (.int .i64 0), .nil, .nil, .dat (.int .i64 0), .nil, .nil, .nil, .nil]) ∧ s.h 3 = (1, .box 35 [.dat (.int .i64 0), .dat (.bool true), .dat (.int .i64 p0), .nil, .nil, .dat (.int .i64 1), .nil, .nil, .nil, .nil]) ∧ s.h 100012 = (1, .row 9 1 (List.map enS ([(⟨#[98, 97, 110, 107]⟩ : ByteArray), (⟨#[110, 101, 119, 115]⟩ : ByteArray), (⟨#[115, 104, 111, 112]⟩ : ByteArray)])) true) ∧ True) ?_
  rintro s4 ⟨f5, f6, f7, f8, f9, f10, f11, f12, _⟩
  refine SW_gho ((Gho.trans (Gho.own_b (b := 3) (c := 8) (K := 7030000) 99 4 (by simp +decide only [F, reduceIte, Nat.reduceAdd, Bool.not_true, Bool.not_false, EN, *, -h]; rfl) rfl (by decide)) (Gho.own_b (b := 3) (c := 9) (K := 7030001) 102 5 (by simp +decide only [F, reduceIte, Nat.reduceAdd, Bool.not_true, Bool.not_false, EN, *, -h]; rfl) rfl (by decide)))) ?_
  refine SW_loopG (fun m s => ∃ v14 : Int, ∃ r30000 : List M.Site, ∃ r30001 : List M.Server, ∃ u30000 : Nat, ∃ u30001 : Nat, s.t 2 = .v false [.bp 2 1 0] ∧ s.t 3 = .v false [.bp 3 1 0] ∧ s.t 12 = .v false [.row 100012 1] ∧ s.t 13 = .v false [.dat (.int .i64 ((3 : Nat) : Int))] ∧ s.t 14 = .v false [.dat (.int .i64 v14)] ∧ s.h 2 = (1, .box 35 [.dat (.int .i64 0), .dat (.bool false), .dat (.int .i64 0), .nil, .nil, .dat (.int .i64 0), .nil, .nil, .nil, .nil]) ∧ s.h 3 = (1, .box 35 [.dat (.int .i64 0), .dat (.bool true), .dat (.int .i64 p0), .nil, .nil, .dat (.int .i64 1), .nil, .nil, .row 7030000 u30000, .row 7030001 u30001]) ∧ s.h 100012 = (1, .row 9 1 (List.map enS ([(⟨#[98, 97, 110, 107]⟩ : ByteArray), (⟨#[110, 101, 119, 115]⟩ : ByteArray), (⟨#[115, 104, 111, 112]⟩ : ByteArray)])) true) ∧ s.h 7030000 = (u30000, .row 99 4 (List.map M.Site.en r30000) true) ∧ s.h 7030001 = (u30001, .row 102 5 (List.map M.Server.en r30001) true) ∧ m_impl_NewWorld_L1 p0 m v14 r30000 r30001 = some r) fuel ?_ ?_
  · refine ⟨0, ([] : List M.Site), ([] : List M.Server), ((s4.h 7030000).1 + 1), ((s4.h 7030001).1 + 1), ?_, ?_, ?_, ?_, ?_, ?_, ?_, ?_, ?_, ?_, h⟩
    all_goals simp +decide only [F, reduceIte, Nat.reduceAdd, Bool.not_true, Bool.not_false, EN, *, -h]
  rintro mL1 s13 ⟨v14, r30000, r30001, u30000, u30001, f14, f15, f16, f17, f18, f19, f20, f21, f22, f23, h⟩
  rcases mL1 with _ | mL1
  · exact absurd h (by simp [m_impl_NewWorld_L1])
  simp only [m_impl_NewWorld_L1] at h
  refine sq (rn ?_)
  refine an (sq ?_)
  rcases bcas (decide (v14 < ((3 : Nat) : Int))) with b24 | b24
  · replace h := ite_f b24 h
    refine cf (xt (aft_cx (aft_ix (aft_x (an (sq (rn ?_)))))))
    refine an (rt ?_)
    cases h
    simp [Ret, TB, EN, *]
  replace h := ite_t b24 h
  refine ct (sk (an (sq (bk (sq ?_)))))
  obtain ⟨x25, h26, h⟩ := bind_some h
  obtain ⟨q27, q28, q29⟩ := idx_some h26
  have q27m := congrArg (Option.map enS) (show ([(⟨#[98, 97, 110, 107]⟩ : ByteArray), (⟨#[110, 101, 119, 115]⟩ : ByteArray), (⟨#[115, 104, 111, 112]⟩ : ByteArray)])[v14.toNat]? = some x25 by assumption)
  simp only [← List.getElem?_map, List.map_cons, List.map_nil, Option.map_some, EN] at q27m
  simp only [List.length_cons, List.length_nil, Nat.reduceAdd] at q29
  refine rn ?_
  refine an (sq ?_)
  obtain ⟨x30, h31, h⟩ := bind_some h
  refine rn1 h31 ?_
  refine an ?_
  refine cu (fun s => s.t 2 = .v false [.bp 2 1 0] ∧ s.t 3 = .v false [.bp 3 1 0] ∧ s.t 12 = .v false [.row 100012 1] ∧ s.t 13 = .v false [.dat (.int .i64 ((3 : Nat) : Int))] ∧ s.t 14 = .v false [.dat (.int .i64 v14)] ∧ s.h 2 = (1, .box 35 [.dat (.int .i64 0), .dat (.bool false), .dat (.int .i64 0), .nil, .nil, .dat (.int .i64 0), .nil, .nil, .nil, .nil]) ∧ s.h 3 = (1, .box 35 [.dat (.int .i64 0), .dat (.bool true), .dat (.int .i64 p0), .nil, .nil, .dat (.int .i64 1), .nil, .nil, .row 7030000 (u30000 + 1), .row 7030001 u30001]) ∧ s.h 100012 = (1, .row 9 1 (List.map enS ([(⟨#[98, 97, 110, 107]⟩ : ByteArray), (⟨#[110, 101, 119, 115]⟩ : ByteArray), (⟨#[115, 104, 111, 112]⟩ : ByteArray)])) true) ∧ s.h 7030000 = ((u30000 + 1), .row 99 4 (List.map M.Site.en (r30000 ++ [(⟨x25, 1, [(⟨#[99, 111, 100, 101]⟩ : ByteArray), (⟨#[100, 97, 116, 97]⟩ : ByteArray), (⟨#[105, 110, 100, 101, 120]⟩ : ByteArray), (⟨#[115, 116, 121, 108, 101]⟩ : ByteArray)], (x25.toList == (⟨#[110, 101, 119, 115]⟩ : ByteArray).toList)⟩ : M.Site)])) true) ∧ s.h 7030001 = (u30001, .row 102 5 (List.map M.Server.en r30001) true) ∧ True) ?_
  rintro s32 ⟨f33, f34, f35, f36, f37, f38, f39, f40, f41, f42, _⟩
  obtain ⟨x43, h44, h⟩ := bind_some h
  refine rn1 h44 ?_
  refine ab (an ?_)
  refine cu (fun s => s.t 2 = .v false [.bp 2 1 0] ∧ s.t 3 = .v false [.bp 3 1 0] ∧ s.t 12 = .v false [.row 100012 1] ∧ s.t 13 = .v false [.dat (.int .i64 ((3 : Nat) : Int))] ∧ s.t 14 = .v false [.dat (.int .i64 v14)] ∧ s.h 2 = (1, .box 35 [.dat (.int .i64 0), .dat (.bool false), .dat (.int .i64 0), .nil, .nil, .dat (.int .i64 0), .nil, .nil, .nil, .nil]) ∧ s.h 3 = (1, .box 35 [.dat (.int .i64 0), .dat (.bool true), .dat (.int .i64 p0), .nil, .nil, .dat (.int .i64 1), .nil, .nil, .row 7030000 (u30000 + 1), .row 7030001 (u30001 + 1)]) ∧ s.h 100012 = (1, .row 9 1 (List.map enS ([(⟨#[98, 97, 110, 107]⟩ : ByteArray), (⟨#[110, 101, 119, 115]⟩ : ByteArray), (⟨#[115, 104, 111, 112]⟩ : ByteArray)])) true) ∧ s.h 7030000 = ((u30000 + 1), .row 99 4 (List.map M.Site.en (r30000 ++ [(⟨x25, 1, [(⟨#[99, 111, 100, 101]⟩ : ByteArray), (⟨#[100, 97, 116, 97]⟩ : ByteArray), (⟨#[105, 110, 100, 101, 120]⟩ : ByteArray), (⟨#[115, 116, 121, 108, 101]⟩ : ByteArray)], (x25.toList == (⟨#[110, 101, 119, 115]⟩ : ByteArray).toList)⟩ : M.Site)])) true) ∧ s.h 7030001 = ((u30001 + 1), .row 102 5 (List.map M.Server.en (r30001 ++ [(⟨(⟨(⟨#[110, 111, 116, 101, 115]⟩ : ByteArray), ([] : List M.Item), 0⟩ : M.Store), ([] : List M.Applied), ([] : List M.Write)⟩ : M.Server)])) true) ∧ True) ?_
  rintro s45 ⟨f46, f47, f48, f49, f50, f51, f52, f53, f54, f55, _⟩
  refine rn ?_
  refine aft_i ⟨_, (Gho.trans (Gho.ren_b (b := 3) (c := 8) (K := 7030000) (j := 7030000) (by simp +decide only [F, reduceIte, Nat.reduceAdd, Bool.not_true, Bool.not_false, EN, *, -h]; rfl) rfl (by simp +decide only [F, reduceIte, Nat.reduceAdd, Bool.not_true, Bool.not_false, EN, *, -h]; rfl) (by decide)) (Gho.ren_b (b := 3) (c := 9) (K := 7030001) (j := 7030001) (by simp +decide only [F, reduceIte, Nat.reduceAdd, Bool.not_true, Bool.not_false, EN, *, -h]; rfl) rfl (by simp +decide only [F, reduceIte, Nat.reduceAdd, Bool.not_true, Bool.not_false, EN, *, -h]; rfl) (by decide))), mL1, by omega, (IntKind.i64.wrap (v14 + 1)), (r30000 ++ [(⟨x25, 1, [(⟨#[99, 111, 100, 101]⟩ : ByteArray), (⟨#[100, 97, 116, 97]⟩ : ByteArray), (⟨#[105, 110, 100, 101, 120]⟩ : ByteArray), (⟨#[115, 116, 121, 108, 101]⟩ : ByteArray)], (x25.toList == (⟨#[110, 101, 119, 115]⟩ : ByteArray).toList)⟩ : M.Site)]), (r30001 ++ [(⟨(⟨(⟨#[110, 111, 116, 101, 115]⟩ : ByteArray), ([] : List M.Item), 0⟩ : M.Store), ([] : List M.Applied), ([] : List M.Write)⟩ : M.Server)]), ((u30000 + 1) + 1), ((u30001 + 1) + 1), ?_, ?_, ?_, ?_, ?_, ?_, ?_, ?_, ?_, ?_, h⟩
  all_goals simp +decide only [F, reduceIte, Nat.reduceAdd, Bool.not_true, Bool.not_false, EN, *, -h]

end Go.Proofs.YtcpahpbjjnekkaaGreat.gen
