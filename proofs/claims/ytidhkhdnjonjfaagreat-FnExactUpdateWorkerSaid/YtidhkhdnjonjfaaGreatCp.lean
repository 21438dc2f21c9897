/-
  Helper text. No conditions.
-/
import Derived.Test.YtidhkhdnjonjfaaGreatRows
import Derived.Test.YtidhkhdnjonjfaaGreatProg
import Derived.KernelRfl
import Derived.JoinedOf
namespace Go.Proofs.YtidhkhdnjonjfaaGreat.gen
open Go
set_option maxRecDepth 100000
theorem aOo:laidOutB Tryz.pinned.checked.prog=true:=by kernel_rfl
theorem aRV:mapsRowed Tryz.pinned.checked.prog=true:=by kernel_rfl
theorem aQO:(Tryz.pinned.checked.prog.stops==[])=true:=by kernel_rfl
theorem aQT:(Tryz.pinned.checked.prog.stopKnobs==[])=true:=by kernel_rfl
theorem aPt:Tryz.pinned.checked.prog.stopsHeard=true:=by kernel_rfl
theorem aPy:Tryz.pinned.checked.prog.mayEnter=true:=by kernel_rfl
theorem aQV:Tryz.pinned.checked.prog.liftsFinal=Rows.fnBucketsRow.lifted:=by kernel_rfl
theorem aRT:Tryz.pinned.checked.prog.plainKeys=Rows.fnBucketsRow.plainKeys:=by kernel_rfl
theorem aRI:Tryz.pinned.checked.prog.make=some Rows.fnBucketsRow.make:=by kernel_rfl
end Go.Proofs.YtidhkhdnjonjfaaGreat.gen
