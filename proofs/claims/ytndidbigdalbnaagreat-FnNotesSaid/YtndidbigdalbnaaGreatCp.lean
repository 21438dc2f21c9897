/-
  Helper text. No conditions.
-/
import Derived.Test.YtndidbigdalbnaaGreatRows
import Derived.Test.YtndidbigdalbnaaGreatProg
import Derived.KernelRfl
import Derived.JoinedOf
namespace Go.Proofs.YtndidbigdalbnaaGreat.gen
open Go
set_option maxRecDepth 100000
theorem cp_laid:laidOutB Tryz.pinned.checked.prog=true:=by kernel_rfl
theorem cp_maps:mapsRowed Tryz.pinned.checked.prog=true:=by kernel_rfl
theorem cp_stops:(Tryz.pinned.checked.prog.stops==[])=true:=by kernel_rfl
theorem cp_knobs:(Tryz.pinned.checked.prog.stopKnobs==[])=true:=by kernel_rfl
theorem cp_heard:Tryz.pinned.checked.prog.stopsHeard=true:=by kernel_rfl
theorem cp_enter:Tryz.pinned.checked.prog.mayEnter=true:=by kernel_rfl
theorem cp_lifts:Tryz.pinned.checked.prog.liftsFinal=Rows.fnNotesRow.lifted:=by kernel_rfl
theorem cp_keys:Tryz.pinned.checked.prog.plainKeys=Rows.fnNotesRow.plainKeys:=by kernel_rfl
theorem cp_make:Tryz.pinned.checked.prog.make=some Rows.fnNotesRow.make:=by kernel_rfl
