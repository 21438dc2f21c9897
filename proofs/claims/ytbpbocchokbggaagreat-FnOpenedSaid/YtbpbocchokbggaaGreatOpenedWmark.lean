/-
  Helper text. No conditions.
-/
import Derived.Test.YtbpbocchokbggaaGreatOpenedTi
set_option linter.all false
namespace Go.Proofs.YtbpbocchokbggaaGreat.gen
open Go Go.Sh
set_option maxRecDepth 20000
set_option maxHeartbeats 4000000
theorem c17(p0 r)(h:GJ p0=some r):Sc 17 [aL enB p0] [rB r]:=by unfold GJ at h;exact sgo 6 [.tmp 2] Tryz.func17
