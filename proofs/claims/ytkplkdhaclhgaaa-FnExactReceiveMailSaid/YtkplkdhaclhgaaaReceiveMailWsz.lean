/-
  Helper text: walks: each function's contract out of its model. No conditions beyond those of each contract.
-/
import Derived.Test.YtkplkdhaclhgaaaReceiveMailTi
namespace Go.Proofs.Ytkplkdhaclhgaaa.gen
open Go Go.Sh
set_option linter.unusedVariables false
set_option linter.unusedSimpArgs false
set_option maxRecDepth 20000 in
set_option maxHeartbeats 4000000 in
theorem c_laws_szMailS (p0 : List M.Mail) (p1 : Int) (r : Int) (h : m_laws_szMailS p0 p1 = some r) : SCalls Try.prog 12 [(false, [.sl (List.map M.Mail.en p0)]), (false, [.int .i64 p1])] [(false, [.ro (.int .i64 r)])] := by
  unfold m_laws_szMailS at h
  refine scalls_n (N := 12) (vars := [.tmp 4]) Try.func12 rfl rfl rfl (by decide +kernel) (Nat.le_of_ble_eq_true rfl) fun base wd => ?_
  refine sq (rn ?_)
  refine an (sq (rn ?_))
  refine an (sq (sq (rn ?_)))
  refine an ?_
  rcases bcase (decide ((IntKind.i64.wrap (p1 - (List.length p0 : Int))) < 0)) with b1 | b1
  · replace h := ite_t b1 h
    refine ct (sq (rn ?_))
    refine an (rt ?_)
    cases h
    simp [Ret, TB, EN, *]
  replace h := ite_f b1 h
  refine cf (sk (an (sq (rn ?_))))
  refine an (rt ?_)
  cases h
  simp [Ret, TB, EN, *]

set_option maxRecDepth 20000 in
set_option maxHeartbeats 4000000 in
theorem c_laws_szChannel (p0 : M.Channel) (p1 : Int) (r : Int) (h : m_laws_szChannel p0 p1 = some r) : SCalls Try.prog 4 [(true, M.Channel.en p0), (false, [.int .i64 p1])] [(false, [.ro (.int .i64 r)])] := by
  unfold m_laws_szChannel at h
  simp only [M.Channel.en]
  refine scalls_n (N := 12) (vars := [.tmp 4]) Try.func4 rfl rfl rfl (by decide +kernel) (Nat.le_of_ble_eq_true rfl) fun base wd => ?_
  refine sq (rn ?_)
  refine an (sq ?_)
  obtain ⟨x1, h2, h⟩ := bind_some h
  refine rn1 (c_laws_szMailS _ _ _ h2) ?_
  refine an (sq (sq (rn ?_)))
  refine an ?_
  rcases bcase (decide (x1 < 0)) with b3 | b3
  · replace h := ite_t b3 h
    refine ct (sq (rn ?_))
    refine an (rt ?_)
    cases h
    simp [Ret, TB, EN, *]
  replace h := ite_f b3 h
  refine cf (sk (an (sq (rn ?_))))
  refine an (rt ?_)
  cases h
  simp [Ret, TB, EN, *]

end Go.Proofs.Ytkplkdhaclhgaaa.gen
