/-
  Helper text. No conditions.
-/
import Derived.Test.YtipmihbgjolaaaaGreatWorldsTi
import Derived.Test.YtipmihbgjolaaaaGreatWorldsWimpl0
import Derived.Test.YtipmihbgjolaaaaGreatWorldsWimpl1
import Derived.Test.YtipmihbgjolaaaaGreatWorldsWimpl2
set_option linter.unusedVariables false
set_option linter.unusedSimpArgs false
namespace Go.Proofs.YtipmihbgjolaaaaGreat.gen
open Go Go.Sh
set_option maxRecDepth 20000
set_option maxHeartbeats 4000000
theorem VA (p0 r) (h:cC p0=some r):Sc 150 [aS p0] [rB r]:=by unfold cC at h;exact sgo 5 [.tmp 2] Tryz.func150
instance:cA 150 (type_of% @VA):=⟨@VA⟩
theorem Yv (p0 p1 r) (h:mZ p0 p1=some r):Sc 252 [aX (M.Key.en p0),aX (M.Key.en p1)] [rI r]:=by unfold mZ at h;exact sgo 36 [.tmp 4] Tryz.func252
instance:cA 252 (type_of% @Yv):=⟨@Yv⟩
theorem YK (p0 p1 r) (h:kJ p0 p1=some r):Sc 365 [aX (M.aC.en p0),aS p1] [rI r.1,rB r.2]:=by unfold kJ at h;exact sgo 18 [.tmp 4,.tmp 5] Tryz.func365
instance:cA 365 (type_of% @YK):=⟨@YK⟩
theorem Xp (p0 r) (h:uG p0=some r):Sc 247 [aX (M.Key.en p0)] [rW 5 1 enB r]:=by
 have i1:=inv λm s=>∃v4:Int,∃aa:List Int,∃ae:Nat,(s.t 1=vP 1 1 0/\s.t 3=vR 100012 ae/\s.t 4=vI v4/\s.h 1=(1,oX 209 (M.Key.en p0))/\s.h 100012=(ae,oW 5 1 enB aa))/\fA p0 m v4 aa=some r
 have e1:=@fA.eq_2
 unfold uG at h
 exact sgo 34 [.tmp 2] Tryz.func247
instance:cA 247 (type_of% @Xp):=⟨@Xp⟩
theorem Yw (p0 p1 r) (h:rP p0 p1=some r):Sc 324 [aL enB p0,aL enB p1] [rW 5 1 enB r]:=by unfold rP at h;exact sgo 11 [.tmp 4] Tryz.func324
instance:cA 324 (type_of% @Yw):=⟨@Yw⟩
theorem Yd (p0 r) (h:sQ p0=some r):Sc 149 [aS p0] [rB r]:=by unfold sQ at h;exact sgo 5 [.tmp 2] Tryz.func149
instance:cA 149 (type_of% @Yd):=⟨@Yd⟩
theorem Xt (p0 p1 r) (h:mR p0 p1=some r):Sc 371 [aX (M.aAM.en p0),aX (M.aAM.en p1)] [rB r]:=by unfold mR at h;exact sgo 38 [.tmp 4] Tryz.func371
instance:cA 371 (type_of% @Xt):=⟨@Xt⟩
theorem Z6 (p0 p1 r) (h:oR p0 p1=some r):Sc 263 [aX (M.aAQ.en p0),aX (M.aAQ.en p1)] [rB r]:=by unfold oR at h;exact sgo 17 [.tmp 4] Tryz.func263
theorem Wn (p0 p1 r) (h:tL p0 p1=some r):Sc 242 [aX (M.aAT.en p0),aX (M.aAT.en p1)] [rB r]:=by unfold tL at h;exact sgo 24 [.tmp 4] Tryz.func242
instance:cA 242 (type_of% @Wn):=⟨@Wn⟩
theorem c90 (p0 p1 r) (h:fH p0 p1=some r):Sc 90 [aX (M.bV.en p0),aX (M.bV.en p1)] [rB r]:=by unfold fH at h;exact sgo 45 [.tmp 4] Tryz.func90
end Go.Proofs.YtipmihbgjolaaaaGreat.gen
