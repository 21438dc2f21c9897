/-
  Helper text. No conditions.
-/
import Derived.Test.YtjlnkcoeghonfaaGreatRunningPagesTi
set_option linter.all false
namespace Go.Proofs.YtjlnkcoeghonfaaGreat.gen
open Go Go.Sh
set_option maxRecDepth 20000
set_option maxHeartbeats 4000000
theorem c15(p0 r)(h:J1 p0=some r):Sc 15 [aL enB p0] [rB r]:=by unfold J1 at h;exact sgo 6 [.tmp 2] Tryz.func15
