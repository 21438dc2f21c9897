/-
  Helper text. No conditions.
-/
import Derived.Test.YtnhpbpnhmapeeaaGreatRows
import Derived.Test.YtnhpbpnhmapeeaaGreatProg
import Derived.KernelRfl
import Derived.JoinedOf
namespace Go.Proofs.YtnhpbpnhmapeeaaGreat.gen
open Go
set_option maxRecDepth 100000
theorem aL3:laidOutB Tryz.pinned.checked.prog=true:=by kernel_rfl
theorem aNz:mapsRowed Tryz.pinned.checked.prog=true:=by kernel_rfl
theorem aNF:(Tryz.pinned.checked.prog.stops==[])=true:=by kernel_rfl
theorem aNH:(Tryz.pinned.checked.prog.stopKnobs==[])=true:=by kernel_rfl
theorem aMt:Tryz.pinned.checked.prog.stopsHeard=true:=by kernel_rfl
theorem aMw:Tryz.pinned.checked.prog.mayEnter=true:=by kernel_rfl
theorem aNJ:Tryz.pinned.checked.prog.liftsFinal=Rows.fnSharedLocksRow.lifted:=by kernel_rfl
theorem aNy:Tryz.pinned.checked.prog.plainKeys=Rows.fnSharedLocksRow.plainKeys:=by kernel_rfl
theorem aNq:Tryz.pinned.checked.prog.make=some Rows.fnSharedLocksRow.make:=by kernel_rfl
end Go.Proofs.YtnhpbpnhmapeeaaGreat.gen
