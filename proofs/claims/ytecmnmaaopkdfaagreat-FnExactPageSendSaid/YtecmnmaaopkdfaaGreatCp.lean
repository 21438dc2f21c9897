/-
  Helper text. No conditions.
-/
import Derived.Test.YtecmnmaaopkdfaaGreatRows
import Derived.Test.YtecmnmaaopkdfaaGreatProg
import Derived.KernelRfl
import Derived.JoinedOf
namespace Go.Proofs.YtecmnmaaopkdfaaGreat.gen
open Go
set_option maxRecDepth 100000
theorem aKq : laidOutB Tryz.pinned.checked.prog = true := by kernel_rfl
theorem aND : mapsRowed Tryz.pinned.checked.prog = true := by kernel_rfl
theorem aMV : (Tryz.pinned.checked.prog.stops == []) = true := by kernel_rfl
theorem aMP : (Tryz.pinned.checked.prog.stopKnobs == []) = true := by kernel_rfl
theorem aMd : Tryz.pinned.checked.prog.stopsHeard = true := by kernel_rfl
theorem aMH : Tryz.pinned.checked.prog.mayEnter = true := by kernel_rfl
theorem aMb : Tryz.pinned.checked.prog.liftsFinal = Rows.fnExactReleaseSiteRow.lifted := by kernel_rfl
theorem aNE : Tryz.pinned.checked.prog.plainKeys = Rows.fnExactReleaseSiteRow.plainKeys := by kernel_rfl
theorem aNM : Tryz.pinned.checked.prog.make = some Rows.fnExactReleaseSiteRow.make := by kernel_rfl
end Go.Proofs.YtecmnmaaopkdfaaGreat.gen
