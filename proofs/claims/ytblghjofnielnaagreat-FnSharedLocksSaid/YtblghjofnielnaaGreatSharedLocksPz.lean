/-
  Helper text. No conditions.
-/
import Derived.Test.YtblghjofnielnaaGreatSharedLocksMod
namespace Go.Proofs.YtblghjofnielnaaGreat.gen
open Go Go.Sh
set_option linter.unusedVariables false
set_option linter.unusedSimpArgs false
end Go.Proofs.YtblghjofnielnaaGreat.gen
