/-
  Helper text. No conditions.
-/
import Derived.Test.YtipmihbgjolaaaaGreatCompleteCachesTi
set_option linter.unusedVariables false
set_option linter.unusedSimpArgs false
namespace Go.Proofs.YtipmihbgjolaaaaGreat.gen
open Go Go.Sh
set_option maxRecDepth 20000
set_option maxHeartbeats 4000000
theorem aBD (p0 r) (h:pH p0=some r):Sc 197 [aX (M.aGm.en p0)] [(true,M.aGm.rs r)]:=by unfold pH at h;exact sgo 11 [.cell 2 105] Tryz.func197
instance:bF 197 (type_of% @aBD):=⟨@aBD⟩
theorem aEk (p0 r) (h:Af p0=some r):Sc 230 [aX (M.aGo.en p0)] [(true,M.aGo.rs r)]:=by
 have i1:=D5 [.b 3 1 7050000 195 7] λm s=>∃v4:Int,∃aa:List M.aGw,∃ae:Nat,(s.t 1=vP 1 1 0/\s.t 2=vP 2 1 0/\s.t 3=vP 3 1 0/\s.t 4=vI v4/\s.h 1=(1,oX 193 (M.aGo.en p0))/\s.h 2=(1,oB 193 [cI 0,.nil])/\s.h 3=(1,oB 193 [cI p0.aGg,.row 7050000 ae])/\s.h 7050000=(ae,oW 195 7 M.aGw.en aa))/\mP p0 m v4 aa=some r
 have e1:=@mP.eq_2
 unfold Af at h
 exact sgo 36 [.cell 2 193] Tryz.func230
instance:bF 230 (type_of% @aEk):=⟨@aEk⟩
theorem aFR (r) (h:cC=some r):Sc 116 [] [(true,M.aGm.rs r)]:=by unfold cC at h;exact sgo 2 [.cell 0 105] Tryz.func116
instance:bF 116 (type_of% @aFR):=⟨@aFR⟩
theorem aAW (p0 p1 r) (h:nU p0 p1=some r):Sc 114 [aX (M.aC.en p0),aI p1] [rI r]:=by
 have i1:=inv λm s=>∃v5:Int,(s.t 1=vI p1/\s.t 2=vP 2 1 0/\s.t 5=vI v5/\s.h 2=(1,oX 31 (M.aC.en p0)))/\lF p0 p1 m v5=some r
 have e1:=@lF.eq_2
 unfold nU at h
 exact sgo 22 [.tmp 4] Tryz.func114
instance:bF 114 (type_of% @aAW):=⟨@aAW⟩
theorem aBL (p0 p1 p2 r) (h:zA p0 p1 p2=some r):Sc 196 [aX (M.aGo.en p0),aS p1,aS p2] [rI r]:=by
 have i1:=inv λm s=>∃v7:Int,(s.t 1=vS p1/\s.t 2=vS p2/\s.t 3=vP 3 1 0/\s.t 7=vI v7/\s.h 3=(1,oX 193 (M.aGo.en p0)))/\mG p0 p1 p2 m v7=some r
 have e1:=@mG.eq_2
 unfold zA at h
 exact sgo 34 [.tmp 6] Tryz.func196
instance:bF 196 (type_of% @aBL):=⟨@aBL⟩
theorem aBl (p0 p1 p2 p3 r) (h:gO p0 p1 p2 p3=some r):Sc 112 [aX (M.aC.en p0),aI p1,aS p2,aS p3] [(true,M.aGm.rs r.1),rB r.2]:=by unfold gO at h;exact sgo 40 [.cell 8 105,.tmp 9] Tryz.func112
instance:bF 112 (type_of% @aBl):=⟨@aBl⟩
theorem aEu (p0 r) (h:sX p0=some r):Sc 311 [aX (M.aM.en p0)] [(true,M.aM.rs r)]:=by unfold sX at h;exact sgo 11 [.cell 2 43] Tryz.func311
instance:bF 311 (type_of% @aEu):=⟨@aEu⟩
theorem aEw (p0 r) (h:wN p0=some r):Sc 233 [aX (M.aG5.en p0)] [(true,M.aG5.rs r)]:=by unfold wN at h;exact sgo 10 [.cell 2 45] Tryz.func233
instance:bF 233 (type_of% @aEw):=⟨@aEw⟩
theorem aEg (p0 r) (h:wR p0=some r):Sc 178 [aX (M.aR.en p0)] [(true,M.aR.rs r)]:=by unfold wR at h;exact sgo 8 [.cell 2 68] Tryz.func178
instance:bF 178 (type_of% @aEg):=⟨@aEg⟩
theorem aFj (p0 p1 r) (h:kO p0 p1=some r):Sc 368 [aX (M.aE.en p0),aS p1] [rI r.1,rB r.2]:=by
 have i1:=inv λm s=>∃v6:Int,(s.t 1=vS p1/\s.t 2=vP 2 1 0/\s.t 6=vI v6/\s.h 2=(1,oX 254 (M.aE.en p0)))/\rA p0 p1 m v6=some r
 have e1:=@rA.eq_2
 unfold kO at h
 exact sgo 28 [.tmp 4,.tmp 5] Tryz.func368
instance:bF 368 (type_of% @aFj):=⟨@aFj⟩
theorem c55 (p0 p1 p2 r) (h:zF p0 p1 p2=some r):Sc 55 [aX (M.aG.en p0),aS p1,aS p2] [rB r]:=by unfold zF at h;exact sgo 23 [.tmp 6] Tryz.func55
instance:bF 55 (type_of% @c55):=⟨@c55⟩
theorem aDw (p0 p1 p2 r) (h:Bz p0 p1 p2=some r):Sc 397 [aL M.nW.en p0,aI p1,aX (M.nW.en p2)] [rB r]:=by
 have i1:=inv λm s=>∃v7:Int,(s.t 0=vL M.nW.en p0/\s.t 1=vI p1/\s.t 5=vP 5 1 0/\s.t 7=vI v7/\s.h 5=(1,oX 154 (M.nW.en p2)))/\nN p0 p1 p2 m v7=some r
 have e1:=@nN.eq_2
 unfold Bz at h
 exact sgo 42 [.tmp 6] Tryz.func397
instance:bF 397 (type_of% @aDw):=⟨@aDw⟩
theorem aB9 (p0 r) (h:tM p0=some r):Sc 374 [aX (M.aR.en p0)] [(true,M.aR.rs r)]:=by
 have i1:=inv λm s=>∃v4:Int,∃r6:List M.nW,(s.t 2=vP 2 1 0/\s.t 3=vP 3 1 0/\s.t 4=vI v4/\s.h 2=(1,oB 68 [.nil])/\s.h 3=(1,oB 68 [.row 100006 1])/\s.h 100006=(1,oW 154 4 M.nW.en r6))/\eT m v4 r6=some r
 have e1:=@eT.eq_2
 unfold tM at h
 exact sgo 38 [.cell 2 68] Tryz.func374
instance:bF 374 (type_of% @aB9):=⟨@aB9⟩
theorem aFm (p0 p1 r) (h:yV p0 p1=some r):Sc 333 [aX (M.aGt.en p0),aI p1] [(true,M.aGt.rs r)]:=by
 have i1:=D5 [.b 5 0 7050000 157 3] λm s=>∃v6:Int,∃aa:List M.Bk,∃ae:Nat,(s.t 1=vI p1/\s.t 2=vP 2 1 0/\s.t 4=vP 4 1 0/\s.t 5=vP 5 1 0/\s.t 6=vI v6/\s.h 2=(1,oX 71 (M.aGt.en p0))/\s.h 4=(1,oB 71 [.nil])/\s.h 5=(1,oB 71 [.row 7050000 ae])/\s.h 7050000=(ae,oW 157 3 M.Bk.en aa))/\iJ p0 p1 m v6 aa=some r
 have e1:=@iJ.eq_2
 unfold yV at h
 exact sgo 34 [.cell 4 71] Tryz.func333
theorem aCm (p0 r) (h:yD p0=some r):Sc 334 [aX (M.World.en p0)] [rI r]:=by unfold yD at h;exact sgo 9 [.tmp 2] Tryz.func334
instance:bF 334 (type_of% @aCm):=⟨@aCm⟩
theorem aB2 (p0 p1 p2 r) (h:oL p0 p1 p2=some r):Sc 335 [aX (M.aGf.en p0),aX (M.aGl.en p1),aB p2] [rI r]:=by unfold oL at h;exact sgo 15 [.tmp 6] Tryz.func335
instance:bF 335 (type_of% @aB2):=⟨@aB2⟩
theorem aCO (p0 r) (h:BJ p0=some r):Sc 204 [aI p0] [rI r]:=by unfold BJ at h;exact sgo 8 [.tmp 2] Tryz.func204
instance:bF 204 (type_of% @aCO):=⟨@aCO⟩
theorem aCz (p0 p1 r) (h:fJ p0 p1=some r):Sc 386 [aL enB p0,aI p1] [rI r.1,rI r.2.1,rB r.2.2]:=by
 have i1:=inv λm s=>∃v7:Int,∃v8:Int,(s.t 0=vL enB p0/\s.t 1=vI p1/\s.t 7=vI v7/\s.t 8=vI v8)/\eB p0 p1 m v7 v8=some r
 have e1:=@eB.eq_2
 unfold fJ at h
 exact sgo 55 [.tmp 4,.tmp 5,.tmp 6] Tryz.func386
instance:bF 386 (type_of% @aCz):=⟨@aCz⟩
theorem aEx (p0 p1 p2 r) (h:dX p0 p1 p2=some r):Sc 385 [aL enB p0,aI p1,aI p2] [rW 5 1 enB r.1,rI r.2.1,rB r.2.2]:=by unfold dX at h;exact sgo 46 [.tmp 6,.tmp 7,.tmp 8] Tryz.func385
instance:bF 385 (type_of% @aEx):=⟨@aEx⟩
theorem aE9 (p0 p1 r) (h:mW p0 p1=some r):Sc 348 [aX (M.aD.en p0),aX (M.Key.en p1)] [rI r]:=by
 have i1:=inv λm s=>∃v5:Int,(s.t 2=vP 2 1 0/\s.t 3=vP 3 1 0/\s.t 5=vI v5/\s.h 2=(1,oX 40 (M.aD.en p0))/\s.h 3=(1,oX 209 (M.Key.en p1)))/\nH p0 p1 m v5=some r
 have e1:=@nH.eq_2
 unfold mW at h
 exact sgo 22 [.tmp 4] Tryz.func348
instance:bF 348 (type_of% @aE9):=⟨@aE9⟩
theorem aDe (p0 p1 r) (h:wO p0 p1=some r):Sc 294 [aX (M.aGr.en p0),aI p1] [rI r]:=by
 have i1:=inv λm s=>∃v5:Int,(s.t 1=vI p1/\s.t 2=vP 2 1 0/\s.t 5=vI v5/\s.h 2=(1,oX 137 (M.aGr.en p0)))/\tH p0 p1 m v5=some r
 have e1:=@tH.eq_2
 unfold wO at h
 exact sgo 27 [.tmp 4] Tryz.func294
instance:bF 294 (type_of% @aDe):=⟨@aDe⟩
end Go.Proofs.YtipmihbgjolaaaaGreat.gen
