/-
  Helper text. No conditions.
-/
import Derived.Test.YtipmihbgjolaaaaGreatLoadedFilesTi
set_option linter.unusedVariables false
set_option linter.unusedSimpArgs false
namespace Go.Proofs.YtipmihbgjolaaaaGreat.gen
open Go Go.Sh
set_option maxRecDepth 20000
set_option maxHeartbeats 4000000
theorem ZN (p0 r) (h:sA p0=some r):Sc 197 [aX (M.aE9.en p0)] [(true,M.aE9.rs r)]:=by unfold sA at h;exact sgo 11 [.cell 2 105] Tryz.func197
instance:bH 197 (type_of% @ZN):=⟨@ZN⟩
theorem aC9 (p0 r) (h:zL p0=some r):Sc 230 [aX (M.aFE.en p0)] [(true,M.aFE.rs r)]:=by
 have i1:=DV [.b 3 1 7050000 195 7] λm s=>∃v4:Int,∃aa:List M.aFL,∃ae:Nat,(s.t 1=vP 1 1 0/\s.t 2=vP 2 1 0/\s.t 3=vP 3 1 0/\s.t 4=vI v4/\s.h 1=(1,oX 193 (M.aFE.en p0))/\s.h 2=(1,oB 193 [cI 0,.nil])/\s.h 3=(1,oB 193 [cI p0.aE3,.row 7050000 ae])/\s.h 7050000=(ae,oW 195 7 M.aFL.en aa))/\mC p0 m v4 aa=some r
 have e1:=@mC.eq_2
 unfold zL at h
 exact sgo 36 [.cell 2 193] Tryz.func230
instance:bH 230 (type_of% @aC9):=⟨@aC9⟩
theorem aDJ (p0 r) (h:sB p0=some r):Sc 311 [aX (M.aM.en p0)] [(true,M.aM.rs r)]:=by unfold sB at h;exact sgo 11 [.cell 2 43] Tryz.func311
instance:bH 311 (type_of% @aDJ):=⟨@aDJ⟩
theorem aDL (p0 r) (h:vQ p0=some r):Sc 233 [aX (M.aFS.en p0)] [(true,M.aFS.rs r)]:=by unfold vQ at h;exact sgo 10 [.cell 2 45] Tryz.func233
instance:bH 233 (type_of% @aDL):=⟨@aDL⟩
theorem aC7 (p0 r) (h:vX p0=some r):Sc 178 [aX (M.aR.en p0)] [(true,M.aR.rs r)]:=by unfold vX at h;exact sgo 8 [.cell 2 68] Tryz.func178
instance:bH 178 (type_of% @aC7):=⟨@aC7⟩
theorem aBM (p0 r) (h:oL p0=some r):Sc 179 [aX (M.aFB.en p0)] [(true,M.aFB.rs r)]:=by unfold oL at h;exact sgo 8 [.cell 2 71] Tryz.func179
instance:bH 179 (type_of% @aBM):=⟨@aBM⟩
theorem aCS (p0 p1 p2 r) (h:AZ p0 p1 p2=some r):Sc 397 [aL M.mZ.en p0,aI p1,aX (M.mZ.en p2)] [rB r]:=by
 have i1:=inv λm s=>∃v7:Int,(s.t 0=vL M.mZ.en p0/\s.t 1=vI p1/\s.t 5=vP 5 1 0/\s.t 7=vI v7/\s.h 5=(1,oX 154 (M.mZ.en p2)))/\mV p0 p1 p2 m v7=some r
 have e1:=@mV.eq_2
 unfold AZ at h
 exact sgo 42 [.tmp 6] Tryz.func397
instance:bH 397 (type_of% @aCS):=⟨@aCS⟩
theorem aAk (p0 r) (h:sM p0=some r):Sc 374 [aX (M.aR.en p0)] [(true,M.aR.rs r)]:=by
 have i1:=inv λm s=>∃v4:Int,∃r6:List M.mZ,(s.t 2=vP 2 1 0/\s.t 3=vP 3 1 0/\s.t 4=vI v4/\s.h 2=(1,oB 68 [.nil])/\s.h 3=(1,oB 68 [.row 100006 1])/\s.h 100006=(1,oW 154 4 M.mZ.en r6))/\eN m v4 r6=some r
 have e1:=@eN.eq_2
 unfold sM at h
 exact sgo 38 [.cell 2 68] Tryz.func374
instance:bH 374 (type_of% @aAk):=⟨@aAk⟩
theorem aDq (r) (h:cF=some r):Sc 116 [] [(true,M.aE9.rs r)]:=by unfold cF at h;exact sgo 2 [.cell 0 105] Tryz.func116
instance:bH 116 (type_of% @aDq):=⟨@aDq⟩
theorem ZP (p0 p1 r) (h:uJ p0 p1=some r):Sc 114 [aX (M.aE.en p0),aI p1] [rI r]:=by
 have i1:=inv λm s=>∃v5:Int,(s.t 1=vI p1/\s.t 2=vP 2 1 0/\s.t 5=vI v5/\s.h 2=(1,oX 31 (M.aE.en p0)))/\kO p0 p1 m v5=some r
 have e1:=@kO.eq_2
 unfold uJ at h
 exact sgo 22 [.tmp 4] Tryz.func114
instance:bH 114 (type_of% @ZP):=⟨@ZP⟩
theorem ZW (p0 p1 p2 r) (h:yH p0 p1 p2=some r):Sc 196 [aX (M.aFE.en p0),aS p1,aS p2] [rI r]:=by
 have i1:=inv λm s=>∃v7:Int,(s.t 1=vS p1/\s.t 2=vS p2/\s.t 3=vP 3 1 0/\s.t 7=vI v7/\s.h 3=(1,oX 193 (M.aFE.en p0)))/\lP p0 p1 p2 m v7=some r
 have e1:=@lP.eq_2
 unfold yH at h
 exact sgo 34 [.tmp 6] Tryz.func196
instance:bH 196 (type_of% @ZW):=⟨@ZW⟩
theorem aAL (p0 p1 p2 p3 r) (h:wL p0 p1 p2 p3=some r):Sc 112 [aX (M.aE.en p0),aI p1,aS p2,aS p3] [(true,M.aE9.rs r.1),rB r.2]:=by unfold wL at h;exact sgo 40 [.cell 8 105,.tmp 9] Tryz.func112
instance:bH 112 (type_of% @aAL):=⟨@aAL⟩
theorem aAe (p0 p1 r) (h:CC p0 p1=some r):Sc 201 [aI p0,aI p1] [rI r]:=by unfold CC at h;exact sgo 10 [.tmp 4] Tryz.func201
instance:bH 201 (type_of% @aAe):=⟨@aAe⟩
theorem aC6 (p0 r) (h:pO p0=some r):Sc 202 [aL enB p0] [rW 3 1 enI r]:=by
 have i1:=inv λm s=>∃v4:Int,∃r7:List Int,∃u7:Nat,(s.t 0=vL enB p0/\s.t 3=vR 100007 u7/\s.t 4=vI v4/\s.h 100007=(u7,oW 3 1 enI r7))/\hH p0 m v4 r7=some r
 have e1:=@hH.eq_2
 unfold pO at h
 exact sgo 23 [.tmp 2] Tryz.func202
instance:bH 202 (type_of% @aC6):=⟨@aC6⟩
theorem aBZ (p0 p1 r) (h:fD p0 p1=some r):Sc 386 [aL enB p0,aI p1] [rI r.1,rI r.2.1,rB r.2.2]:=by
 have i1:=inv λm s=>∃v7:Int,∃v8:Int,(s.t 0=vL enB p0/\s.t 1=vI p1/\s.t 7=vI v7/\s.t 8=vI v8)/\dW p0 p1 m v7 v8=some r
 have e1:=@dW.eq_2
 unfold fD at h
 exact sgo 55 [.tmp 4,.tmp 5,.tmp 6] Tryz.func386
instance:bH 386 (type_of% @aBZ):=⟨@aBZ⟩
theorem aDM (p0 p1 p2 r) (h:dU p0 p1 p2=some r):Sc 385 [aL enB p0,aI p1,aI p2] [rW 5 1 enB r.1,rI r.2.1,rB r.2.2]:=by unfold dU at h;exact sgo 46 [.tmp 6,.tmp 7,.tmp 8] Tryz.func385
instance:bH 385 (type_of% @aDM):=⟨@aDM⟩
theorem aCC (p0 p1 r) (h:wP p0 p1=some r):Sc 113 [aL enB p0,aL enB p1] [rB r]:=by unfold wP at h;exact sgo 10 [.tmp 4] Tryz.func113
instance:bH 113 (type_of% @aCC):=⟨@aCC⟩
theorem aEQ (p0 p1 r) (h:BU p0 p1=some r):Sc 389 [aX (M.aE5.en p0),aX (M.kM.en p1)] [rI r]:=by
 have i1:=inv λm s=>∃v5:Int,(s.t 2=vP 2 1 0/\s.t 3=vP 3 1 0/\s.t 5=vI v5/\s.h 2=(1,oX 35 (M.aE5.en p0))/\s.h 3=(1,oX 380 (M.kM.en p1)))/\nL p0 p1 m v5=some r
 have e1:=@nL.eq_2
 unfold BU at h
 exact sgo 34 [.tmp 4] Tryz.func389
theorem aDw (p0 p1 p2 r) (h:Az p0 p1 p2=some r):Sc 357 [aL M.aO.en p0,aI p1,aI p2] [rW 207 2 M.aO.en r]:=by
 have i1:=inv λm s=>∃v8:Int,(s.t 0=vL M.aO.en p0/\s.t 1=vI p1/\s.t 2=vI p2/\s.t 7=vR 100009 2/\s.t 8=vI v8/\s.h 100009=(2,oW 207 2 M.aO.en p0))/\sJ p0 p1 p2 m v8=some r
 have e1:=@sJ.eq_2
 unfold Az at h
 exact sgo 60 [.tmp 6] Tryz.func357
instance:bH 357 (type_of% @aDw):=⟨@aDw⟩
theorem aAO (p0 r) (h:iL p0=some r):Sc 356 [aI p0] [rI r]:=by
 have i1:=inv λm s=>∃v3:Int,∃v4:Int,(s.t 0=vI p0/\s.t 3=vI v3/\s.t 4=vI v4)/\nZ p0 m v3 v4=some r
 have e1:=@nZ.eq_2
 unfold iL at h
 exact sgo 17 [.tmp 2] Tryz.func356
instance:bH 356 (type_of% @aAO):=⟨@aAO⟩
end Go.Proofs.YtipmihbgjolaaaaGreat.gen
