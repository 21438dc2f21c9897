/-
  Helper text. No conditions.
-/
import Derived.Test.YtidhkhdnjonjfaaGreatBucketsTi
set_option linter.unusedVariables false
set_option linter.unusedSimpArgs false
namespace Go.Proofs.YtidhkhdnjonjfaaGreat.gen
open Go Go.Sh
set_option maxRecDepth 20000
set_option maxHeartbeats 4000000
theorem c6 (p0 r) (h:aA7 p0=some r):Sc 6 [aL enB p0] [rB r]:=by
 unfold aA7 at h
 exact sgo 6 [.tmp 2] Tryz.func6
instance:bP 6 (type_of% @c6):=⟨@c6⟩
theorem c16 (p0 p1 r) (h:aAq p0 p1=some r):Sc 16 [aL enB p0,aI p1] [rI r]:=by
 unfold aAq at h
 exact sgo 21 [.tmp 4] Tryz.func16
instance:bP 16 (type_of% @c16):=⟨@c16⟩
end Go.Proofs.YtidhkhdnjonjfaaGreat.gen
