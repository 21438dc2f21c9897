/-
  Helper text: walks: each function's contract out of its model. No conditions beyond those of each contract.
-/
import Derived.Test.YtkplkdhaclhgaaaGreatIsStorageTi
import Derived.Test.YtkplkdhaclhgaaaGreatIsStorageWeq1
import Derived.Test.YtkplkdhaclhgaaaGreatIsStorageWimpl3
import Derived.Test.YtkplkdhaclhgaaaGreatIsStorageWspec2
import Derived.Test.YtkplkdhaclhgaaaGreatIsStorageWsz
import Derived.Test.YtkplkdhaclhgaaaGreatIsStorageWto
namespace Go.Proofs.YtkplkdhaclhgaaaGreat.gen
open Go Go.Sh
set_option linter.unusedVariables false
set_option linter.unusedSimpArgs false
set_option maxRecDepth 20000 in
set_option maxHeartbeats 4000000 in
theorem c_laws_FnExactIsStorage (p0 : M.Storage) (r : Bool) (h : m_laws_FnExactIsStorage p0 = some r) : SCalls Tryz.prog 5 [(true, M.Storage.en p0)] [(false, [.ro (.bool r)])] := by
  unfold m_laws_FnExactIsStorage at h
  simp only [M.Storage.en]
  refine scalls_n (N := 27) (vars := [.tmp 2]) Tryz.func5 rfl rfl rfl (by decide +kernel) (Nat.le_of_ble_eq_true rfl) fun base wd => ?_
  refine sq (rn ?_)
  refine an (sq (rn ?_))
  refine an (sq ?_)
  obtain ⟨x1, h2, h⟩ := bind_some h
  refine rn1 (c_laws_szStorage _ _ _ h2) ?_
  refine an (sq (sq (rn ?_)))
  refine an ?_
  rcases bcase (decide (x1 < 0)) with b3 | b3
  · replace h := ite_t b3 h
    refine ct (sq (rn ?_))
    refine an (rt ?_)
    cases h
    simp [Ret, TB, EN, *]
  replace h := ite_f b3 h
  refine cf (sk (an (sq ?_)))
  obtain ⟨x4, h5, h⟩ := bind_some h
  obtain ⟨x6, h7, h⟩ := bind_some h
  refine rn2 (c_laws_toStorage _ _ h5) (c_spec_IsStorage _ _ h7) ?_
  refine an (sq ?_)
  obtain ⟨x8, h9, h⟩ := bind_some h
  refine rn1 (c_laws_toStorage _ _ h9) ?_
  refine an (sq ?_)
  obtain ⟨x10, h11, h⟩ := bind_some h
  refine rn1 (c_impl_IsStorage _ _ h11) ?_
  refine an (sq (sq (rn ?_)))
  refine an ?_
  rcases bcase (!(x10 == x6)) with b12 | b12
  · replace h := ite_t b12 h
    refine ct (sq (rn ?_))
    refine an (rt ?_)
    cases h
    simp [Ret, TB, EN, *]
  replace h := ite_f b12 h
  refine cf (sk (an (sq (sq ?_))))
  obtain ⟨x13, h14, h⟩ := bind_some h
  obtain ⟨x15, h16, h⟩ := bind_some h
  refine rd2 mixed (c_laws_toStorage _ _ h14) (c_laws_eqStorage _ _ _ h16) ?_
  refine an ?_
  rcases bcase (!x15) with b17 | b17
  · replace h := ite_t b17 h
    refine ct (sq (rn ?_))
    refine an (rt ?_)
    cases h
    simp [Ret, TB, EN, *]
  replace h := ite_f b17 h
  refine cf (sk (an (sq (rn ?_))))
  refine an (rt ?_)
  cases h
  simp [Ret, TB, EN, *]

end Go.Proofs.YtkplkdhaclhgaaaGreat.gen
