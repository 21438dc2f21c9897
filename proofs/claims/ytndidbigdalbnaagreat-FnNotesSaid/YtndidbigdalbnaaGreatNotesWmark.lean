/-
  Helper text. No conditions.
-/
import Derived.Test.YtndidbigdalbnaaGreatNotesTi
set_option linter.all false
namespace Go.Proofs.YtndidbigdalbnaaGreat.gen
open Go Go.Sh Tryz
set_option maxRecDepth 20000
set_option maxHeartbeats 4000000
theorem c4(p0 r)(h:JM p0=some r):Sc 4 [aL enB p0] [rB r]:=by unfold JM at h;exact sgo 6 [.tmp 2] func4
theorem c10(p0 p1 r)(h:BA p0 p1=some r):Sc 10 [aL enB p0,aL enB p1] [rB r]:=by
 have i1:=inv λm s=>∃j:Int,(s.t 0=vL enB p0/\s.t 1=vL enB p1/\s.t 5=vI j)/\rU p0 p1 m j=some r
 have e1:=@rU.eq_2
 unfold BA at h
 exact sgo 26 [.tmp 4] func10
