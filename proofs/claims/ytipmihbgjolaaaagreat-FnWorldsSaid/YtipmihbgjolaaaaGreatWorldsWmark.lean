/-
  Helper text. No conditions.
-/
import Derived.Test.YtipmihbgjolaaaaGreatWorldsTi
set_option linter.unusedVariables false
set_option linter.unusedSimpArgs false
namespace Go.Proofs.YtipmihbgjolaaaaGreat.gen
open Go Go.Sh
set_option maxRecDepth 20000
set_option maxHeartbeats 4000000
theorem c7 (p0 r) (h:CW p0=some r):Sc 7 [aL enB p0] [rB r]:=by unfold CW at h;exact sgo 6 [.tmp 2] Tryz.func7
theorem c22 (p0 p1 r) (h:CD p0 p1=some r):Sc 22 [aL enB p0,aI p1] [rI r]:=by unfold CD at h;exact sgo 21 [.tmp 4] Tryz.func22
end Go.Proofs.YtipmihbgjolaaaaGreat.gen
