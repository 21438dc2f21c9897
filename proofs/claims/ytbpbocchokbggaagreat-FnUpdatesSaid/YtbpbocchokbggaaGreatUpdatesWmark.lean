/-
  Helper text. No conditions.
-/
import Derived.Test.YtbpbocchokbggaaGreatUpdatesTi
set_option linter.all false
namespace Go.Proofs.YtbpbocchokbggaaGreat.gen
open Go Go.Sh
set_option maxRecDepth 20000
set_option maxHeartbeats 4000000
theorem c17(p0 r)(h:Hu p0=some r):Sc 17 [aL enB p0] [rB r]:=by unfold Hu at h;exact sgo 6 [.tmp 2] Tryz.func17
