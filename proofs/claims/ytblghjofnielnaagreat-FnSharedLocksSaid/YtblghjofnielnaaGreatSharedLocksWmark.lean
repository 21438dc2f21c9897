/-
  Helper text. No conditions.
-/
import Derived.Test.YtblghjofnielnaaGreatSharedLocksTi
namespace Go.Proofs.YtblghjofnielnaaGreat.gen
open Go Go.Sh
set_option linter.unusedVariables false
set_option linter.unusedSimpArgs false
set_option maxRecDepth 20000
set_option maxHeartbeats 4000000
theorem c9 (p0 r) (h:sR p0=some r):Sc 9 [aL enB p0] [rB r]:=by
 unfold sR at h
 exact sgo 6 [.tmp 2] Tryz.func9
instance:aZ 9 (type_of% @c9):=⟨@c9⟩
theorem c12 (p0 p1 r) (h:kF p0 p1=some r):Sc 12 [aL enB p0,aI p1] [rI r]:=by
 unfold kF at h
 exact sgo 21 [.tmp 4] Tryz.func12
instance:aZ 12 (type_of% @c12):=⟨@c12⟩
end Go.Proofs.YtblghjofnielnaaGreat.gen
