/-
  Helper text. No conditions.
-/
import Derived.Test.YtblghjofnielnaaChannelsTi
namespace Go.Proofs.Ytblghjofnielnaa.gen
open Go Go.Sh
set_option linter.unusedVariables false
set_option linter.unusedSimpArgs false
set_option maxRecDepth 20000
set_option maxHeartbeats 4000000
theorem c4 (p0 r) (h:jQ p0=some r):Sc 4 [aL enB p0] [rB r]:=by
 unfold jQ at h
 exact sgo 6 [.tmp 2] Try.func4
instance:gR 4 (type_of% @c4):=⟨@c4⟩
end Go.Proofs.Ytblghjofnielnaa.gen
