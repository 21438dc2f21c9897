/-
  Helper text. No conditions.
-/
import Derived.Test.YtimblbmbfdopgaaGreatRows
import Derived.Test.YtimblbmbfdopgaaGreatProg
import Derived.KernelRfl
import Derived.JoinedOf
namespace Go.Proofs.YtimblbmbfdopgaaGreat.gen
open Go
set_option maxRecDepth 100000
theorem aOJ:laidOutB Tryz.pinned.checked.prog=true:=by kernel_rfl
theorem aQw:mapsRowed Tryz.pinned.checked.prog=true:=by kernel_rfl
theorem aPm:(Tryz.pinned.checked.prog.stops==[])=true:=by kernel_rfl
theorem aPq:(Tryz.pinned.checked.prog.stopKnobs==[])=true:=by kernel_rfl
theorem aPE:Tryz.pinned.checked.prog.stopsHeard=true:=by kernel_rfl
theorem aPJ:Tryz.pinned.checked.prog.mayEnter=true:=by kernel_rfl
theorem aPs:Tryz.pinned.checked.prog.liftsFinal=Rows.fnExactWriteNoteRow.lifted:=by kernel_rfl
theorem aQt:Tryz.pinned.checked.prog.plainKeys=Rows.fnExactWriteNoteRow.plainKeys:=by kernel_rfl
theorem aQj:Tryz.pinned.checked.prog.make=some Rows.fnExactWriteNoteRow.make:=by kernel_rfl
end Go.Proofs.YtimblbmbfdopgaaGreat.gen
