/-
  Helper text. No conditions.
-/
import Derived.Test.YtblghjofnielnaaRows
import Derived.Test.YtblghjofnielnaaProg
import Derived.KernelRfl
import Derived.JoinedOf
namespace Go.Proofs.Ytblghjofnielnaa.gen
open Go
set_option maxRecDepth 100000
theorem wY:laidOutB Try.pinned.checked.prog=true:=by kernel_rfl
theorem aAZ:mapsRowed Try.pinned.checked.prog=true:=by kernel_rfl
theorem zI:(Try.pinned.checked.prog.stops==[])=true:=by kernel_rfl
theorem zP:(Try.pinned.checked.prog.stopKnobs==[])=true:=by kernel_rfl
theorem yI:Try.pinned.checked.prog.stopsHeard=true:=by kernel_rfl
theorem yN:Try.pinned.checked.prog.mayEnter=true:=by kernel_rfl
theorem zS:Try.pinned.checked.prog.liftsFinal=Rows.fnChannelsRow.lifted:=by kernel_rfl
theorem aAI:Try.pinned.checked.prog.plainKeys=Rows.fnChannelsRow.plainKeys:=by kernel_rfl
theorem aAN:Try.pinned.checked.prog.make=some Rows.fnChannelsRow.make:=by kernel_rfl
end Go.Proofs.Ytblghjofnielnaa.gen
