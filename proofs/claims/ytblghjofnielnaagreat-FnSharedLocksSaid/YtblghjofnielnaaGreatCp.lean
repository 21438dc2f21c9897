/-
  Helper text. No conditions.
-/
import Derived.Test.YtblghjofnielnaaGreatRows
import Derived.Test.YtblghjofnielnaaGreatProg
import Derived.KernelRfl
import Derived.JoinedOf
namespace Go.Proofs.YtblghjofnielnaaGreat.gen
open Go
set_option maxRecDepth 100000
theorem aBJ:laidOutB Tryz.pinned.checked.prog=true:=by kernel_rfl
theorem aCR:mapsRowed Tryz.pinned.checked.prog=true:=by kernel_rfl
theorem aBz:(Tryz.pinned.checked.prog.stops==[])=true:=by kernel_rfl
theorem aB1:(Tryz.pinned.checked.prog.stopKnobs==[])=true:=by kernel_rfl
theorem aBj:Tryz.pinned.checked.prog.stopsHeard=true:=by kernel_rfl
theorem aBk:Tryz.pinned.checked.prog.mayEnter=true:=by kernel_rfl
theorem aB3:Tryz.pinned.checked.prog.liftsFinal=Rows.fnSharedLocksRow.lifted:=by kernel_rfl
theorem aCQ:Tryz.pinned.checked.prog.plainKeys=Rows.fnSharedLocksRow.plainKeys:=by kernel_rfl
theorem aCL:Tryz.pinned.checked.prog.make=some Rows.fnSharedLocksRow.make:=by kernel_rfl
end Go.Proofs.YtblghjofnielnaaGreat.gen
