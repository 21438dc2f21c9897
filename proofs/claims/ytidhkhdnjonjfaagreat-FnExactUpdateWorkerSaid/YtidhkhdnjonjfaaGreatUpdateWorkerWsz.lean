/-
  Helper text. No conditions.
-/
import Derived.Test.YtidhkhdnjonjfaaGreatUpdateWorkerTi
set_option linter.unusedVariables false
set_option linter.unusedSimpArgs false
namespace Go.Proofs.YtidhkhdnjonjfaaGreat.gen
open Go Go.Sh
set_option maxRecDepth 20000
set_option maxHeartbeats 4000000
theorem aV8 (p0 p1 r) (h:lG p0 p1=some r):Sc 419 [aX (M.Registration.en p0),aI p1] [rI r]:=by
 unfold lG at h
 exact sgo 13 [.tmp 4] Tryz.func419
instance:bA 419 (type_of% @aV8):=⟨@aV8⟩
theorem aXn (p0 p1 r) (h:xV p0 p1=some r):Sc 482 [aL enB p0,aI p1] [rI r]:=by
 unfold xV at h
 exact sgo 12 [.tmp 4] Tryz.func482
instance:bA 482 (type_of% @aXn):=⟨@aXn⟩
theorem aVW (p0 p1 r) (h:tW p0 p1=some r):Sc 555 [aX (M.Response.en p0),aI p1] [rI r]:=by
 unfold tW at h
 exact sgo 12 [.tmp 4] Tryz.func555
instance:bA 555 (type_of% @aVW):=⟨@aVW⟩
theorem aWK (p0 p1 r) (h:yY p0 p1=some r):Sc 548 [aX (M.Cached.en p0),aI p1] [rI r]:=by
 unfold yY at h
 exact sgo 26 [.tmp 4] Tryz.func548
instance:bA 548 (type_of% @aWK):=⟨@aWK⟩
theorem aYI (p0 p1 r) (h:wI p0 p1=some r):Sc 536 [aL M.Cached.en p0,aI p1] [rI r]:=by
 have i1:=inv fun m s=>∃v1:Int,∃v5:Int,(s.t 0=vL M.Cached.en p0∧s.t 1=vI v1∧s.t 5=vI v5)∧uX p0 m v1 v5=some r
 have e1:=@uX.eq_2
 unfold wI at h
 exact sgo 27 [.tmp 4] Tryz.func536
instance:bA 536 (type_of% @aYI):=⟨@aYI⟩
theorem aX7 (p0 p1 r) (h:aA8 p0 p1=some r):Sc 511 [aX (M.Cache.en p0),aI p1] [rI r]:=by
 unfold aA8 at h
 exact sgo 12 [.tmp 4] Tryz.func511
instance:bA 511 (type_of% @aX7):=⟨@aX7⟩
theorem aVh (p0 p1 r) (h:aAG p0 p1=some r):Sc 480 [aL M.Cache.en p0,aI p1] [rI r]:=by
 have i1:=inv fun m s=>∃v1:Int,∃v5:Int,(s.t 0=vL M.Cache.en p0∧s.t 1=vI v1∧s.t 5=vI v5)∧yN p0 m v1 v5=some r
 have e1:=@yN.eq_2
 unfold aAG at h
 exact sgo 27 [.tmp 4] Tryz.func480
instance:bA 480 (type_of% @aVh):=⟨@aVh⟩
theorem aVD (p0 p1 r) (h:uR p0 p1=some r):Sc 420 [aX (M.aA.en p0),aI p1] [rI r]:=by
 unfold uR at h
 exact sgo 12 [.tmp 4] Tryz.func420
instance:bA 420 (type_of% @aVD):=⟨@aVD⟩
theorem aYe (p0 p1 r) (h:aBW p0 p1=some r):Sc 485 [aX (M.Key.en p0),aI p1] [rI r]:=by
 unfold aBW at h
 exact sgo 13 [.tmp 4] Tryz.func485
instance:bA 485 (type_of% @aYe):=⟨@aYe⟩
theorem aWJ (p0 p1 r) (h:aAz p0 p1=some r):Sc 549 [aX (M.Field.en p0),aI p1] [rI r]:=by
 unfold aAz at h
 exact sgo 13 [.tmp 4] Tryz.func549
instance:bA 549 (type_of% @aWJ):=⟨@aWJ⟩
theorem aYc (p0 p1 r) (h:yW p0 p1=some r):Sc 538 [aL M.Field.en p0,aI p1] [rI r]:=by
 have i1:=inv fun m s=>∃v1:Int,∃v5:Int,(s.t 0=vL M.Field.en p0∧s.t 1=vI v1∧s.t 5=vI v5)∧yI p0 m v1 v5=some r
 have e1:=@yI.eq_2
 unfold yW at h
 exact sgo 27 [.tmp 4] Tryz.func538
instance:bA 538 (type_of% @aYc):=⟨@aYc⟩
theorem aYh (p0 p1 r) (h:aAF p0 p1=some r):Sc 515 [aX (M.aU.en p0),aI p1] [rI r]:=by
 unfold aAF at h
 exact sgo 12 [.tmp 4] Tryz.func515
instance:bA 515 (type_of% @aYh):=⟨@aYh⟩
theorem aUR (p0 p1 r) (h:aB5 p0 p1=some r):Sc 484 [aX (M.Item.en p0),aI p1] [rI r]:=by
 unfold aB5 at h
 exact sgo 18 [.tmp 4] Tryz.func484
instance:bA 484 (type_of% @aUR):=⟨@aUR⟩
theorem aWZ (p0 p1 r) (h:aBG p0 p1=some r):Sc 423 [aL M.Item.en p0,aI p1] [rI r]:=by
 have i1:=inv fun m s=>∃v1:Int,∃v5:Int,(s.t 0=vL M.Item.en p0∧s.t 1=vI v1∧s.t 5=vI v5)∧aAT p0 m v1 v5=some r
 have e1:=@aAT.eq_2
 unfold aBG at h
 exact sgo 27 [.tmp 4] Tryz.func423
instance:bA 423 (type_of% @aWZ):=⟨@aWZ⟩
theorem aYG (p0 p1 r) (h:sC p0 p1=some r):Sc 316 [aX (M.aJ.en p0),aI p1] [rI r]:=by
 unfold sC at h
 exact sgo 19 [.tmp 4] Tryz.func316
instance:bA 316 (type_of% @aYG):=⟨@aYG⟩
theorem aYC (p0 p1 r) (h:zR p0 p1=some r):Sc 512 [aL M.aJ.en p0,aI p1] [rI r]:=by
 have i1:=inv fun m s=>∃v1:Int,∃v5:Int,(s.t 0=vL M.aJ.en p0∧s.t 1=vI v1∧s.t 5=vI v5)∧yO p0 m v1 v5=some r
 have e1:=@yO.eq_2
 unfold zR at h
 exact sgo 27 [.tmp 4] Tryz.func512
instance:bA 512 (type_of% @aYC):=⟨@aYC⟩
theorem aVL (p0 p1 r) (h:sY p0 p1=some r):Sc 537 [aX (M.aD.en p0),aI p1] [rI r]:=by
 unfold sY at h
 exact sgo 20 [.tmp 4] Tryz.func537
instance:bA 537 (type_of% @aVL):=⟨@aVL⟩
theorem aUc (p0 p1 r) (h:rA p0 p1=some r):Sc 513 [aL M.aD.en p0,aI p1] [rI r]:=by
 have i1:=inv fun m s=>∃v1:Int,∃v5:Int,(s.t 0=vL M.aD.en p0∧s.t 1=vI v1∧s.t 5=vI v5)∧pR p0 m v1 v5=some r
 have e1:=@pR.eq_2
 unfold rA at h
 exact sgo 27 [.tmp 4] Tryz.func513
instance:bA 513 (type_of% @aUc):=⟨@aUc⟩
theorem aWH (p0 p1 r) (h:uK p0 p1=some r):Sc 481 [aX (M.Database.en p0),aI p1] [rI r]:=by
 unfold uK at h
 exact sgo 25 [.tmp 4] Tryz.func481
instance:bA 481 (type_of% @aWH):=⟨@aWH⟩
theorem aXL (p0 p1 r) (h:aBb p0 p1=some r):Sc 421 [aX (M.bB.en p0),aI p1] [rI r]:=by
 unfold aBb at h
 exact sgo 18 [.tmp 4] Tryz.func421
instance:bA 421 (type_of% @aXL):=⟨@aXL⟩
theorem aWe (p0 p1 r) (h:aA6 p0 p1=some r):Sc 424 [aX (M.aW.en p0),aI p1] [rI r]:=by
 unfold aA6 at h
 exact sgo 19 [.tmp 4] Tryz.func424
instance:bA 424 (type_of% @aWe):=⟨@aWe⟩
theorem aYA (p0 p1 r) (h:tX p0 p1=some r):Sc 318 [aL M.aW.en p0,aI p1] [rI r]:=by
 have i1:=inv fun m s=>∃v1:Int,∃v5:Int,(s.t 0=vL M.aW.en p0∧s.t 1=vI v1∧s.t 5=vI v5)∧yJ p0 m v1 v5=some r
 have e1:=@yJ.eq_2
 unfold tX at h
 exact sgo 27 [.tmp 4] Tryz.func318
instance:bA 318 (type_of% @aYA):=⟨@aYA⟩
theorem aVI (p0 p1 r) (h:zK p0 p1=some r):Sc 514 [aX (M.aV.en p0),aI p1] [rI r]:=by
 unfold zK at h
 exact sgo 12 [.tmp 4] Tryz.func514
instance:bA 514 (type_of% @aVI):=⟨@aVI⟩
theorem aXy (p0 p1 r) (h:aCK p0 p1=some r):Sc 483 [aX (M.Sync.en p0),aI p1] [rI r]:=by
 unfold aCK at h
 exact sgo 12 [.tmp 4] Tryz.func483
instance:bA 483 (type_of% @aXy):=⟨@aXy⟩
theorem aUz (p0 p1 r) (h:xN p0 p1=some r):Sc 422 [aX (M.aE.en p0),aI p1] [rI r]:=by
 unfold xN at h
 exact sgo 18 [.tmp 4] Tryz.func422
instance:bA 422 (type_of% @aUz):=⟨@aUz⟩
theorem aXr (p0 p1 r) (h:aAI p0 p1=some r):Sc 313 [aX (M.Bucket.en p0),aI p1] [rI r]:=by
 unfold aAI at h
 exact sgo 44 [.tmp 4] Tryz.func313
instance:bA 313 (type_of% @aXr):=⟨@aXr⟩
theorem aVA (p0 p1 r) (h:wL p0 p1=some r):Sc 166 [aL M.Bucket.en p0,aI p1] [rI r]:=by
 have i1:=inv fun m s=>∃v1:Int,∃v5:Int,(s.t 0=vL M.Bucket.en p0∧s.t 1=vI v1∧s.t 5=vI v5)∧vN p0 m v1 v5=some r
 have e1:=@vN.eq_2
 unfold wL at h
 exact sgo 27 [.tmp 4] Tryz.func166
instance:bA 166 (type_of% @aVA):=⟨@aVA⟩
theorem c62 (p0 p1 r) (h:wA p0 p1=some r):Sc 62 [aX (M.aC.en p0),aI p1] [rI r]:=by
 unfold wA at h
 exact sgo 12 [.tmp 4] Tryz.func62
instance:bA 62 (type_of% @c62):=⟨@c62⟩
theorem aUk (p0 p1 r) (h:yZ p0 p1=some r):Sc 171 [aX (M.aN.en p0),aI p1] [rI r]:=by
 unfold yZ at h
 exact sgo 13 [.tmp 4] Tryz.func171
instance:bA 171 (type_of% @aUk):=⟨@aUk⟩
theorem c68 (p0 p1 r) (h:wN p0 p1=some r):Sc 68 [aL M.aN.en p0,aI p1] [rI r]:=by
 have i1:=inv fun m s=>∃v1:Int,∃v5:Int,(s.t 0=vL M.aN.en p0∧s.t 1=vI v1∧s.t 5=vI v5)∧vM p0 m v1 v5=some r
 have e1:=@vM.eq_2
 unfold wN at h
 exact sgo 27 [.tmp 4] Tryz.func68
instance:bA 68 (type_of% @c68):=⟨@c68⟩
theorem aWW (p0 p1 r) (h:aAb p0 p1=some r):Sc 319 [aX (M.Instr.en p0),aI p1] [rI r]:=by
 unfold aAb at h
 exact sgo 13 [.tmp 4] Tryz.func319
instance:bA 319 (type_of% @aWW):=⟨@aWW⟩
theorem aUL (p0 p1 r) (h:zX p0 p1=some r):Sc 172 [aL M.Instr.en p0,aI p1] [rI r]:=by
 have i1:=inv fun m s=>∃v1:Int,∃v5:Int,(s.t 0=vL M.Instr.en p0∧s.t 1=vI v1∧s.t 5=vI v5)∧yQ p0 m v1 v5=some r
 have e1:=@yQ.eq_2
 unfold zX at h
 exact sgo 27 [.tmp 4] Tryz.func172
instance:bA 172 (type_of% @aUL):=⟨@aUL⟩
theorem aV3 (p0 p1 r) (h:aCC p0 p1=some r):Sc 173 [aL enI p0,aI p1] [rI r]:=by
 unfold aCC at h
 exact sgo 12 [.tmp 4] Tryz.func173
instance:bA 173 (type_of% @aV3):=⟨@aV3⟩
theorem c69 (p0 p1 r) (h:xP p0 p1=some r):Sc 69 [aX (M.Machine.en p0),aI p1] [rI r]:=by
 unfold xP at h
 exact sgo 18 [.tmp 4] Tryz.func69
instance:bA 69 (type_of% @c69):=⟨@c69⟩
theorem c20 (p0 p1 r) (h:aB9 p0 p1=some r):Sc 20 [aX (M.bJ.en p0),aI p1] [rI r]:=by
 unfold aB9 at h
 exact sgo 32 [.tmp 4] Tryz.func20
instance:bA 20 (type_of% @c20):=⟨@c20⟩
theorem c63 (p0 p1 r) (h:aAs p0 p1=some r):Sc 63 [aL M.bJ.en p0,aI p1] [rI r]:=by
 have i1:=inv fun m s=>∃v1:Int,∃v5:Int,(s.t 0=vL M.bJ.en p0∧s.t 1=vI v1∧s.t 5=vI v5)∧aAU p0 m v1 v5=some r
 have e1:=@aAU.eq_2
 unfold aAs at h
 exact sgo 27 [.tmp 4] Tryz.func63
instance:bA 63 (type_of% @c63):=⟨@c63⟩
theorem aU7 (p0 p1 r) (h:aCN p0 p1=some r):Sc 314 [aX (M.dA.en p0),aI p1] [rI r]:=by
 unfold aCN at h
 exact sgo 13 [.tmp 4] Tryz.func314
instance:bA 314 (type_of% @aU7):=⟨@aU7⟩
theorem aVe (p0 p1 r) (h:aAm p0 p1=some r):Sc 167 [aL M.dA.en p0,aI p1] [rI r]:=by
 have i1:=inv fun m s=>∃v1:Int,∃v5:Int,(s.t 0=vL M.dA.en p0∧s.t 1=vI v1∧s.t 5=vI v5)∧aAS p0 m v1 v5=some r
 have e1:=@aAS.eq_2
 unfold aAm at h
 exact sgo 27 [.tmp 4] Tryz.func167
instance:bA 167 (type_of% @aVe):=⟨@aVe⟩
theorem c64 (p0 p1 r) (h:rD p0 p1=some r):Sc 64 [aX (M.aP.en p0),aI p1] [rI r]:=by
 unfold rD at h
 exact sgo 12 [.tmp 4] Tryz.func64
instance:bA 64 (type_of% @c64):=⟨@c64⟩
theorem aVa (p0 p1 r) (h:aA0 p0 p1=some r):Sc 168 [aL M.fW.en p0,aI p1] [rI r]:=by
 unfold aA0 at h
 exact sgo 12 [.tmp 4] Tryz.func168
instance:bA 168 (type_of% @aVa):=⟨@aVa⟩
theorem c65 (p0 p1 r) (h:xL p0 p1=some r):Sc 65 [aX (M.Channel.en p0),aI p1] [rI r]:=by
 unfold xL at h
 exact sgo 12 [.tmp 4] Tryz.func65
instance:bA 65 (type_of% @c65):=⟨@c65⟩
theorem aXh (p0 p1 r) (h:vQ p0 p1=some r):Sc 315 [aL enS p0,aI p1] [rI r]:=by
 have i1:=inv fun m s=>∃v1:Int,∃v5:Int,(s.t 0=vL enS p0∧s.t 1=vI v1∧s.t 5=vI v5)∧vJ p0 m v1 v5=some r
 have e1:=@vJ.eq_2
 unfold vQ at h
 exact sgo 28 [.tmp 4] Tryz.func315
instance:bA 315 (type_of% @aXh):=⟨@aXh⟩
theorem aX8 (p0 p1 r) (h:aBj p0 p1=some r):Sc 169 [aX (M.Site.en p0),aI p1] [rI r]:=by
 unfold aBj at h
 exact sgo 19 [.tmp 4] Tryz.func169
instance:bA 169 (type_of% @aX8):=⟨@aX8⟩
theorem c66 (p0 p1 r) (h:aBK p0 p1=some r):Sc 66 [aL M.Site.en p0,aI p1] [rI r]:=by
 have i1:=inv fun m s=>∃v1:Int,∃v5:Int,(s.t 0=vL M.Site.en p0∧s.t 1=vI v1∧s.t 5=vI v5)∧aAR p0 m v1 v5=some r
 have e1:=@aAR.eq_2
 unfold aBK at h
 exact sgo 27 [.tmp 4] Tryz.func66
instance:bA 66 (type_of% @c66):=⟨@c66⟩
theorem aYa (p0 p1 r) (h:tV p0 p1=some r):Sc 317 [aL M.aK.en p0,aI p1] [rI r]:=by
 unfold tV at h
 exact sgo 12 [.tmp 4] Tryz.func317
instance:bA 317 (type_of% @aYa):=⟨@aYa⟩
theorem aVv (p0 p1 r) (h:yU p0 p1=some r):Sc 170 [aX (M.Server.en p0),aI p1] [rI r]:=by
 unfold yU at h
 exact sgo 24 [.tmp 4] Tryz.func170
instance:bA 170 (type_of% @aVv):=⟨@aVv⟩
theorem c67 (p0 p1 r) (h:xT p0 p1=some r):Sc 67 [aL M.Server.en p0,aI p1] [rI r]:=by
 have i1:=inv fun m s=>∃v1:Int,∃v5:Int,(s.t 0=vL M.Server.en p0∧s.t 1=vI v1∧s.t 5=vI v5)∧uY p0 m v1 v5=some r
 have e1:=@uY.eq_2
 unfold xT at h
 exact sgo 27 [.tmp 4] Tryz.func67
instance:bA 67 (type_of% @c67):=⟨@c67⟩
theorem c19 (p0 p1 r) (h:aAv p0 p1=some r):Sc 19 [aX (M.World.en p0),aI p1] [rI r]:=by
 unfold aAv at h
 exact sgo 42 [.tmp 4] Tryz.func19
instance:bA 19 (type_of% @c19):=⟨@c19⟩
end Go.Proofs.YtidhkhdnjonjfaaGreat.gen
