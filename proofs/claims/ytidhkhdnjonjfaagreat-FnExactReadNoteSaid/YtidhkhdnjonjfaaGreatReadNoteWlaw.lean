/-
  Helper text. No conditions.
-/
import Derived.Test.YtidhkhdnjonjfaaGreatReadNoteTi
import Derived.Test.YtidhkhdnjonjfaaGreatReadNoteWeq
import Derived.Test.YtidhkhdnjonjfaaGreatReadNoteWimpl5
import Derived.Test.YtidhkhdnjonjfaaGreatReadNoteWspec2
import Derived.Test.YtidhkhdnjonjfaaGreatReadNoteWsz
import Derived.Test.YtidhkhdnjonjfaaGreatReadNoteWto
set_option linter.unusedVariables false
set_option linter.unusedSimpArgs false
namespace Go.Proofs.YtidhkhdnjonjfaaGreat.gen
open Go Go.Sh
set_option maxRecDepth 20000
set_option maxHeartbeats 4000000
theorem oU (p0 p1 p2 p3 r) (h:jU p0 p1 p2 p3=some r):Sc 4 [aX (M.World.en p0),aX (M.gX.en p1),aI p2,aS p3] [rB r]:=by
 unfold jU at h
 exact sgo 56 [.tmp 8] Tryz.func4
instance:bC 4 (type_of% @oU):=⟨@oU⟩
end Go.Proofs.YtidhkhdnjonjfaaGreat.gen
