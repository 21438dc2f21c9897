/-
  Helper text: the closed facts of the program. No conditions.
-/
import Derived.Test.YtkplkdhaclhgaaaRows
import Derived.Test.YtkplkdhaclhgaaaProg
import Derived.KernelRfl
import Derived.JoinedOf
namespace Go.Proofs.Ytkplkdhaclhgaaa.gen
open Go
set_option maxRecDepth 100000
theorem cp_laid : laidOutB Try.pinned.checked.prog = true := by kernel_rfl
theorem cp_maps : mapsRowed Try.pinned.checked.prog = true := by kernel_rfl
theorem cp_stops : (Try.pinned.checked.prog.stops == []) = true := by kernel_rfl
theorem cp_knobs : (Try.pinned.checked.prog.stopKnobs == []) = true := by kernel_rfl
theorem cp_heard : Try.pinned.checked.prog.stopsHeard = true := by kernel_rfl
theorem cp_enter : Try.pinned.checked.prog.mayEnter = true := by kernel_rfl
theorem cp_lifts : Try.pinned.checked.prog.liftsFinal = Rows.fnExactReceiveMailRow.lifted := by kernel_rfl
theorem cp_keys : Try.pinned.checked.prog.plainKeys = Rows.fnExactReceiveMailRow.plainKeys := by kernel_rfl
theorem cp_make : Try.pinned.checked.prog.make = some Rows.fnExactReceiveMailRow.make := by kernel_rfl
end Go.Proofs.Ytkplkdhaclhgaaa.gen
