/-
  Helper text: walks: each function's contract out of its model. No conditions beyond those of each contract.
-/
import Derived.Test.YtgemmnkhddlhpaaGreatEqualWorldsTi
import Derived.Test.YtgemmnkhddlhpaaGreatEqualWorldsWeq2
import Derived.Test.YtgemmnkhddlhpaaGreatEqualWorldsWimpl2
import Derived.Test.YtgemmnkhddlhpaaGreatEqualWorldsWspec1
import Derived.Test.YtgemmnkhddlhpaaGreatEqualWorldsWsz2
import Derived.Test.YtgemmnkhddlhpaaGreatEqualWorldsWto2
namespace Go.Proofs.YtgemmnkhddlhpaaGreat.gen
open Go Go.Sh
set_option linter.unusedVariables false
set_option linter.unusedSimpArgs false
set_option maxRecDepth 20000 in
set_option maxHeartbeats 4000000 in
theorem c_laws_FnExactEqualWorlds (p0 : M.World) (p1 : M.World) (r : Bool) (h : m_laws_FnExactEqualWorlds p0 p1 = some r) : SCalls Tryz.prog 4 [(true, M.World.en p0), (true, M.World.en p1)] [(false, [.ro (.bool r)])] := by
  unfold m_laws_FnExactEqualWorlds at h
  simp only [M.World.en]
  refine scalls_n (N := 45) (vars := [.tmp 4]) Tryz.func4 rfl rfl rfl (by decide +kernel) (Nat.le_of_ble_eq_true rfl) fun base wd => ?_
  refine sq (rn ?_)
  refine an (sq (rn ?_))
  refine an (sq ?_)
  obtain ⟨x1, h2, h⟩ := bind_some h
  refine rn1 (c_laws_szWorld _ _ _ h2) ?_
  refine an (sq (sq (rn ?_)))
  refine an ?_
  rcases bcase (decide (x1 < 0)) with b3 | b3
  · replace h := ite_t b3 h
    refine ct (sq (rn ?_))
    refine an (rt ?_)
    cases h
    simp [Ret, TB, EN, *]
  replace h := ite_f b3 h
  refine cf (sk (an (sq ?_)))
  obtain ⟨x4, h5, h⟩ := bind_some h
  refine rn1 (c_laws_szWorld _ _ _ h5) ?_
  refine an (sq (sq (rn ?_)))
  refine an ?_
  rcases bcase (decide (x4 < 0)) with b6 | b6
  · replace h := ite_t b6 h
    refine ct (sq (rn ?_))
    refine an (rt ?_)
    cases h
    simp [Ret, TB, EN, *]
  replace h := ite_f b6 h
  refine cf (sk (an (sq ?_)))
  obtain ⟨x7, h8, h⟩ := bind_some h
  obtain ⟨x9, h10, h⟩ := bind_some h
  obtain ⟨x11, h12, h⟩ := bind_some h
  refine rd3 mixed (c_laws_toWorld _ _ h8) (c_laws_toWorld _ _ h10) (c_spec_EqualWorlds _ _ _ h12) ?_
  refine an (sq ?_)
  obtain ⟨x13, h14, h⟩ := bind_some h
  refine rn1 (c_laws_toWorld _ _ h14) ?_
  refine an (sq ?_)
  obtain ⟨x15, h16, h⟩ := bind_some h
  refine rn1 (c_laws_toWorld _ _ h16) ?_
  refine an (sq ?_)
  obtain ⟨x17, h18, h⟩ := bind_some h
  refine rn1 (c_impl_EqualWorlds _ _ _ h18) ?_
  refine an (sq (sq (rn ?_)))
  refine an ?_
  rcases bcase (!(x17 == x11)) with b19 | b19
  · replace h := ite_t b19 h
    refine ct (sq (rn ?_))
    refine an (rt ?_)
    cases h
    simp [Ret, TB, EN, *]
  replace h := ite_f b19 h
  refine cf (sk (an (sq (sq ?_))))
  obtain ⟨x20, h21, h⟩ := bind_some h
  obtain ⟨x22, h23, h⟩ := bind_some h
  refine rd2 mixed (c_laws_toWorld _ _ h21) (c_laws_eqWorld _ _ _ h23) ?_
  refine an ?_
  rcases bcase (!x22) with b24 | b24
  · replace h := ite_t b24 h
    refine ct (sq (rn ?_))
    refine an (rt ?_)
    cases h
    simp [Ret, TB, EN, *]
  replace h := ite_f b24 h
  refine cf (sk (an (sq (sq ?_))))
  obtain ⟨x25, h26, h⟩ := bind_some h
  obtain ⟨x27, h28, h⟩ := bind_some h
  refine rd2 mixed (c_laws_toWorld _ _ h26) (c_laws_eqWorld _ _ _ h28) ?_
  refine an ?_
  rcases bcase (!x27) with b29 | b29
  · replace h := ite_t b29 h
    refine ct (sq (rn ?_))
    refine an (rt ?_)
    cases h
    simp [Ret, TB, EN, *]
  replace h := ite_f b29 h
  refine cf (sk (an (sq (rn ?_))))
  refine an (rt ?_)
  cases h
  simp [Ret, TB, EN, *]

end Go.Proofs.YtgemmnkhddlhpaaGreat.gen
