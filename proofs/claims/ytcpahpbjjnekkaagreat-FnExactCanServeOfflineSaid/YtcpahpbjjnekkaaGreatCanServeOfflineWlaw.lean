/-
  Helper text: walks: each function's contract out of its model. No conditions beyond those of each contract.
-/
import Derived.Test.YtcpahpbjjnekkaaGreatCanServeOfflineTi
import Derived.Test.YtcpahpbjjnekkaaGreatCanServeOfflineWsz
import Derived.Test.YtcpahpbjjnekkaaGreatCanServeOfflineWto
import Derived.Test.YtcpahpbjjnekkaaGreatCanServeOfflineWeq
import Derived.Test.YtcpahpbjjnekkaaGreatCanServeOfflineWspec
import Derived.Test.YtcpahpbjjnekkaaGreatCanServeOfflineWimpl
namespace Go.Proofs.YtcpahpbjjnekkaaGreat.gen
open Go Go.Sh
set_option linter.unusedVariables false
set_option linter.unusedSimpArgs false
set_option maxRecDepth 20000 in
set_option maxHeartbeats 4000000 in
theorem c_laws_FnExactCanServeOffline (p0 : M.World) (p1 : M.Page) (p2 : ByteArray) (r : Bool) (h : m_laws_FnExactCanServeOffline p0 p1 p2 = some r) : SCalls Tryz.prog 4 [(true, M.World.en p0), (true, M.Page.en p1), (false, [.str p2])] [(false, [.ro (.bool r)])] := by
  unfold m_laws_FnExactCanServeOffline at h
  simp only [M.Page.en, M.World.en]
  refine scalls_n (N := 52) (vars := [.tmp 6]) Tryz.func4 rfl rfl rfl (by decide +kernel) (Nat.le_of_ble_eq_true rfl) fun base wd => ?_
  refine sq (rn ?_)
  refine an (sq (sq (rn ?_)))
  refine an ?_
  rcases bcase (decide ((p2.size : Int) > 1048576)) with b1 | b1
  · replace h := ite_t b1 h
    refine ct (sq (rn ?_))
    refine an (rt ?_)
    cases h
    simp [Ret, TB, EN, *]
  replace h := ite_f b1 h
  refine cf (sk (an (sq (rn ?_))))
  refine an (sq ?_)
  obtain ⟨x2, h3, h⟩ := bind_some h
  refine rn1 (c_laws_szWorld _ _ _ h3) ?_
  refine an (sq (sq (rn ?_)))
  refine an ?_
  rcases bcase (decide (x2 < 0)) with b4 | b4
  · replace h := ite_t b4 h
    refine ct (sq (rn ?_))
    refine an (rt ?_)
    cases h
    simp [Ret, TB, EN, *]
  replace h := ite_f b4 h
  refine cf (sk (an (sq ?_)))
  obtain ⟨x5, h6, h⟩ := bind_some h
  refine rn1 (c_laws_szPage _ _ _ h6) ?_
  refine an (sq (sq (rn ?_)))
  refine an ?_
  rcases bcase (decide (x5 < 0)) with b7 | b7
  · replace h := ite_t b7 h
    refine ct (sq (rn ?_))
    refine an (rt ?_)
    cases h
    simp [Ret, TB, EN, *]
  replace h := ite_f b7 h
  refine cf (sk (an (sq ?_)))
  obtain ⟨x8, h9, h⟩ := bind_some h
  obtain ⟨x10, h11, h⟩ := bind_some h
  obtain ⟨x12, h13, h⟩ := bind_some h
  refine rd3 mixed (c_laws_toWorld _ _ h9) (c_laws_toPage _ _ h11) (c_spec_CanServeOffline _ _ _ _ h13) ?_
  refine an (sq ?_)
  obtain ⟨x14, h15, h⟩ := bind_some h
  refine rn1 (c_laws_toWorld _ _ h15) ?_
  refine an (sq ?_)
  obtain ⟨x16, h17, h⟩ := bind_some h
  refine rn1 (c_laws_toPage _ _ h17) ?_
  refine an (sq ?_)
  obtain ⟨x18, h19, h⟩ := bind_some h
  refine rn1 (c_impl_CanServeOffline _ _ _ _ h19) ?_
  refine an (sq (sq (rn ?_)))
  refine an ?_
  rcases bcase (!(x18 == x12)) with b20 | b20
  · replace h := ite_t b20 h
    refine ct (sq (rn ?_))
    refine an (rt ?_)
    cases h
    simp [Ret, TB, EN, *]
  replace h := ite_f b20 h
  refine cf (sk (an (sq (sq ?_))))
  obtain ⟨x21, h22, h⟩ := bind_some h
  obtain ⟨x23, h24, h⟩ := bind_some h
  refine rd2 mixed (c_laws_toWorld _ _ h22) (c_laws_eqWorld _ _ _ h24) ?_
  refine an ?_
  rcases bcase (!x23) with b25 | b25
  · replace h := ite_t b25 h
    refine ct (sq (rn ?_))
    refine an (rt ?_)
    cases h
    simp [Ret, TB, EN, *]
  replace h := ite_f b25 h
  refine cf (sk (an (sq (sq ?_))))
  obtain ⟨x26, h27, h⟩ := bind_some h
  obtain ⟨x28, h29, h⟩ := bind_some h
  refine rd2 mixed (c_laws_toPage _ _ h27) (c_laws_eqPage _ _ _ h29) ?_
  refine an ?_
  rcases bcase (!x28) with b30 | b30
  · replace h := ite_t b30 h
    refine ct (sq (rn ?_))
    refine an (rt ?_)
    cases h
    simp [Ret, TB, EN, *]
  replace h := ite_f b30 h
  refine cf (sk (an (sq (rn ?_))))
  refine an (rt ?_)
  cases h
  simp [Ret, TB, EN, *]

end Go.Proofs.YtcpahpbjjnekkaaGreat.gen
