/-
  Helper text. No conditions.
-/
import Derived.Test.YtndidbigdalbnaaGreatNotesWspec11
set_option linter.all false
namespace Go.Proofs.YtndidbigdalbnaaGreat.gen
open Go Go.Sh
set_option maxRecDepth 20000
set_option maxHeartbeats 4000000
theorem c5(p0 r)(h:AB p0=some r):Sc 5 [aL enB p0] [(true,M.aE.ra r.1),(true,M.bK.ra r.2.1),rI r.2.2.1,rS r.2.2.2.1,rI r.2.2.2.2]:=by unfold AB at h;exact sgo 28 [.cell 2 37,.cell 3 44,.tmp 4,.tmp 5,.tmp 6] Tryz.func5
