/-
  Helper text. No conditions.
-/
import Derived.Test.YtipmihbgjolaaaaGreatLoadedFilesTi
set_option linter.unusedVariables false
set_option linter.unusedSimpArgs false
namespace Go.Proofs.YtipmihbgjolaaaaGreat.gen
open Go Go.Sh
set_option maxRecDepth 20000
set_option maxHeartbeats 4000000
theorem c7 (p0 r) (h:FC p0=some r):Sc 7 [aL enB p0] [rB r]:=by unfold FC at h;exact sgo 6 [.tmp 2] Tryz.func7
end Go.Proofs.YtipmihbgjolaaaaGreat.gen
