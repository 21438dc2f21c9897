/-
  Helper text. No conditions.
-/
import Derived.Test.YtecmnmaaopkdfaaGreatRows
import Derived.Test.YtecmnmaaopkdfaaGreatProg
import Derived.KernelRfl
import Derived.JoinedOf
namespace Go.Proofs.YtecmnmaaopkdfaaGreat.gen
open Go
set_option maxRecDepth 100000
theorem aK9 : laidOutB Tryz.pinned.checked.prog = true := by kernel_rfl
theorem aMu : mapsRowed Tryz.pinned.checked.prog = true := by kernel_rfl
theorem aMF : (Tryz.pinned.checked.prog.stops == []) = true := by kernel_rfl
theorem aMI : (Tryz.pinned.checked.prog.stopKnobs == []) = true := by kernel_rfl
theorem aMH : Tryz.pinned.checked.prog.stopsHeard = true := by kernel_rfl
theorem aMK : Tryz.pinned.checked.prog.mayEnter = true := by kernel_rfl
theorem aMG : Tryz.pinned.checked.prog.liftsFinal = Rows.fnExactReleaseSiteRow.lifted := by kernel_rfl
theorem aMz : Tryz.pinned.checked.prog.plainKeys = Rows.fnExactReleaseSiteRow.plainKeys := by kernel_rfl
theorem aMs : Tryz.pinned.checked.prog.make = some Rows.fnExactReleaseSiteRow.make := by kernel_rfl
end Go.Proofs.YtecmnmaaopkdfaaGreat.gen
