/-
  Helper text. No conditions.
-/
import Derived.Test.YtecmnmaaopkdfaaGreatRows
import Derived.Test.YtecmnmaaopkdfaaGreatProg
import Derived.KernelRfl
import Derived.JoinedOf
namespace Go.Proofs.YtecmnmaaopkdfaaGreat.gen
open Go
set_option maxRecDepth 100000
theorem aL3 : laidOutB Tryz.pinned.checked.prog = true := by kernel_rfl
theorem aOZ : mapsRowed Tryz.pinned.checked.prog = true := by kernel_rfl
theorem aNO : (Tryz.pinned.checked.prog.stops == []) = true := by kernel_rfl
theorem aNl : (Tryz.pinned.checked.prog.stopKnobs == []) = true := by kernel_rfl
theorem aNs : Tryz.pinned.checked.prog.stopsHeard = true := by kernel_rfl
theorem aNt : Tryz.pinned.checked.prog.mayEnter = true := by kernel_rfl
theorem aNu : Tryz.pinned.checked.prog.liftsFinal = Rows.fnExactReleaseSiteRow.lifted := by kernel_rfl
theorem aOW : Tryz.pinned.checked.prog.plainKeys = Rows.fnExactReleaseSiteRow.plainKeys := by kernel_rfl
theorem aOH : Tryz.pinned.checked.prog.make = some Rows.fnExactReleaseSiteRow.make := by kernel_rfl
end Go.Proofs.YtecmnmaaopkdfaaGreat.gen
