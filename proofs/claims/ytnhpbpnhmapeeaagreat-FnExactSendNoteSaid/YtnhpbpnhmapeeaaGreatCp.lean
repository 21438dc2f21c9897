/-
  Helper text. No conditions.
-/
import Derived.Test.YtnhpbpnhmapeeaaGreatRows
import Derived.Test.YtnhpbpnhmapeeaaGreatProg
import Derived.KernelRfl
import Derived.JoinedOf
namespace Go.Proofs.YtnhpbpnhmapeeaaGreat.gen
open Go
set_option maxRecDepth 100000
theorem aMM:laidOutB Tryz.pinned.checked.prog=true:=by kernel_rfl
theorem aOW:mapsRowed Tryz.pinned.checked.prog=true:=by kernel_rfl
theorem aNa:(Tryz.pinned.checked.prog.stops==[])=true:=by kernel_rfl
theorem aNd:(Tryz.pinned.checked.prog.stopKnobs==[])=true:=by kernel_rfl
theorem aNE:Tryz.pinned.checked.prog.stopsHeard=true:=by kernel_rfl
theorem aNJ:Tryz.pinned.checked.prog.mayEnter=true:=by kernel_rfl
theorem aNf:Tryz.pinned.checked.prog.liftsFinal=Rows.fnSharedLocksRow.lifted:=by kernel_rfl
theorem aOV:Tryz.pinned.checked.prog.plainKeys=Rows.fnSharedLocksRow.plainKeys:=by kernel_rfl
theorem aON:Tryz.pinned.checked.prog.make=some Rows.fnSharedLocksRow.make:=by kernel_rfl
end Go.Proofs.YtnhpbpnhmapeeaaGreat.gen
