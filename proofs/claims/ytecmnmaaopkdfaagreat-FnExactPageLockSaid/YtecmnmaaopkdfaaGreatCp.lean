/-
  Helper text. No conditions.
-/
import Derived.Test.YtecmnmaaopkdfaaGreatRows
import Derived.Test.YtecmnmaaopkdfaaGreatProg
import Derived.KernelRfl
import Derived.JoinedOf
namespace Go.Proofs.YtecmnmaaopkdfaaGreat.gen
open Go
set_option maxRecDepth 100000
theorem aKu : laidOutB Tryz.pinned.checked.prog = true := by kernel_rfl
theorem aM4 : mapsRowed Tryz.pinned.checked.prog = true := by kernel_rfl
theorem aL2 : (Tryz.pinned.checked.prog.stops == []) = true := by kernel_rfl
theorem aMg : (Tryz.pinned.checked.prog.stopKnobs == []) = true := by kernel_rfl
theorem aMk : Tryz.pinned.checked.prog.stopsHeard = true := by kernel_rfl
theorem aL5 : Tryz.pinned.checked.prog.mayEnter = true := by kernel_rfl
theorem aMK : Tryz.pinned.checked.prog.liftsFinal = Rows.fnExactReleaseSiteRow.lifted := by kernel_rfl
theorem aMw : Tryz.pinned.checked.prog.plainKeys = Rows.fnExactReleaseSiteRow.plainKeys := by kernel_rfl
theorem aNB : Tryz.pinned.checked.prog.make = some Rows.fnExactReleaseSiteRow.make := by kernel_rfl
end Go.Proofs.YtecmnmaaopkdfaaGreat.gen
