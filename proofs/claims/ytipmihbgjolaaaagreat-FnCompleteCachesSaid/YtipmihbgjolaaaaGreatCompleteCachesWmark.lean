/-
  Helper text. No conditions.
-/
import Derived.Test.YtipmihbgjolaaaaGreatCompleteCachesTi
set_option linter.unusedVariables false
set_option linter.unusedSimpArgs false
namespace Go.Proofs.YtipmihbgjolaaaaGreat.gen
open Go Go.Sh
set_option maxRecDepth 20000
set_option maxHeartbeats 4000000
theorem c7 (p0 r) (h:Gf p0=some r):Sc 7 [aL enB p0] [rB r]:=by unfold Gf at h;exact sgo 6 [.tmp 2] Tryz.func7
theorem c39 (p0 p1 r) (h:yM p0 p1=some r):Sc 39 [aL enB p0,aL enB p1] [rB r]:=by
 have i1:=inv λm s=>∃v5:Int,(s.t 0=vL enB p0/\s.t 1=vL enB p1/\s.t 5=vI v5)/\oH p0 p1 m v5=some r
 have e1:=@oH.eq_2
 unfold yM at h
 exact sgo 26 [.tmp 4] Tryz.func39
end Go.Proofs.YtipmihbgjolaaaaGreat.gen
