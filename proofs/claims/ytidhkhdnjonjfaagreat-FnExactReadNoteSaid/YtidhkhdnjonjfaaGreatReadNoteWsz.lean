/-
  Helper text. No conditions.
-/
import Derived.Test.YtidhkhdnjonjfaaGreatReadNoteTi
set_option linter.unusedVariables false
set_option linter.unusedSimpArgs false
namespace Go.Proofs.YtidhkhdnjonjfaaGreat.gen
open Go Go.Sh
set_option maxRecDepth 20000
set_option maxHeartbeats 4000000
theorem aPc (p0 p1 r) (h:gW p0 p1=some r):Sc 419 [aX (M.Registration.en p0),aI p1] [rI r]:=by
 unfold gW at h
 exact sgo 13 [.tmp 4] Tryz.func419
instance:bC 419 (type_of% @aPc):=⟨@aPc⟩
theorem aQm (p0 p1 r) (h:oQ p0 p1=some r):Sc 482 [aL enB p0,aI p1] [rI r]:=by
 unfold oQ at h
 exact sgo 12 [.tmp 4] Tryz.func482
instance:bC 482 (type_of% @aQm):=⟨@aQm⟩
theorem aPH (p0 p1 r) (h:mF p0 p1=some r):Sc 555 [aX (M.Response.en p0),aI p1] [rI r]:=by
 unfold mF at h
 exact sgo 12 [.tmp 4] Tryz.func555
instance:bC 555 (type_of% @aPH):=⟨@aPH⟩
theorem aPi (p0 p1 r) (h:pK p0 p1=some r):Sc 548 [aX (M.Cached.en p0),aI p1] [rI r]:=by
 unfold pK at h
 exact sgo 26 [.tmp 4] Tryz.func548
instance:bC 548 (type_of% @aPi):=⟨@aPi⟩
theorem aRA (p0 p1 r) (h:nM p0 p1=some r):Sc 536 [aL M.Cached.en p0,aI p1] [rI r]:=by
 have i1:=inv fun m s=>∃v1:Int,∃v5:Int,(s.t 0=vL M.Cached.en p0∧s.t 1=vI v1∧s.t 5=vI v5)∧mW p0 m v1 v5=some r
 have e1:=@mW.eq_2
 unfold nM at h
 exact sgo 27 [.tmp 4] Tryz.func536
instance:bC 536 (type_of% @aRA):=⟨@aRA⟩
theorem aQ0 (p0 p1 r) (h:uE p0 p1=some r):Sc 511 [aX (M.Cache.en p0),aI p1] [rI r]:=by
 unfold uE at h
 exact sgo 12 [.tmp 4] Tryz.func511
instance:bC 511 (type_of% @aQ0):=⟨@aQ0⟩
theorem aPO (p0 p1 r) (h:rQ p0 p1=some r):Sc 480 [aL M.Cache.en p0,aI p1] [rI r]:=by
 have i1:=inv fun m s=>∃v1:Int,∃v5:Int,(s.t 0=vL M.Cache.en p0∧s.t 1=vI v1∧s.t 5=vI v5)∧oZ p0 m v1 v5=some r
 have e1:=@oZ.eq_2
 unfold rQ at h
 exact sgo 27 [.tmp 4] Tryz.func480
instance:bC 480 (type_of% @aPO):=⟨@aPO⟩
theorem aO0 (p0 p1 r) (h:mT p0 p1=some r):Sc 420 [aX (M.bF.en p0),aI p1] [rI r]:=by
 unfold mT at h
 exact sgo 12 [.tmp 4] Tryz.func420
instance:bC 420 (type_of% @aO0):=⟨@aO0⟩
theorem aRO (p0 p1 r) (h:vG p0 p1=some r):Sc 485 [aX (M.Key.en p0),aI p1] [rI r]:=by
 unfold vG at h
 exact sgo 13 [.tmp 4] Tryz.func485
instance:bC 485 (type_of% @aRO):=⟨@aRO⟩
theorem aPh (p0 p1 r) (h:tW p0 p1=some r):Sc 549 [aX (M.Field.en p0),aI p1] [rI r]:=by
 unfold tW at h
 exact sgo 13 [.tmp 4] Tryz.func549
instance:bC 549 (type_of% @aPh):=⟨@aPh⟩
theorem aRN (p0 p1 r) (h:pI p0 p1=some r):Sc 538 [aL M.Field.en p0,aI p1] [rI r]:=by
 have i1:=inv fun m s=>∃v1:Int,∃v5:Int,(s.t 0=vL M.Field.en p0∧s.t 1=vI v1∧s.t 5=vI v5)∧oV p0 m v1 v5=some r
 have e1:=@oV.eq_2
 unfold pI at h
 exact sgo 27 [.tmp 4] Tryz.func538
instance:bC 538 (type_of% @aRN):=⟨@aRN⟩
theorem aRP (p0 p1 r) (h:rP p0 p1=some r):Sc 515 [aX (M.aA.en p0),aI p1] [rI r]:=by
 unfold rP at h
 exact sgo 12 [.tmp 4] Tryz.func515
instance:bC 515 (type_of% @aRP):=⟨@aRP⟩
theorem aOP (p0 p1 r) (h:wD p0 p1=some r):Sc 484 [aX (M.Item.en p0),aI p1] [rI r]:=by
 unfold wD at h
 exact sgo 18 [.tmp 4] Tryz.func484
instance:bC 484 (type_of% @aOP):=⟨@aOP⟩
theorem aPr (p0 p1 r) (h:uM p0 p1=some r):Sc 423 [aL M.Item.en p0,aI p1] [rI r]:=by
 have i1:=inv fun m s=>∃v1:Int,∃v5:Int,(s.t 0=vL M.Item.en p0∧s.t 1=vI v1∧s.t 5=vI v5)∧sL p0 m v1 v5=some r
 have e1:=@sL.eq_2
 unfold uM at h
 exact sgo 27 [.tmp 4] Tryz.func423
instance:bC 423 (type_of% @aPr):=⟨@aPr⟩
theorem aQ8 (p0 p1 r) (h:lI p0 p1=some r):Sc 316 [aX (M.aC.en p0),aI p1] [rI r]:=by
 unfold lI at h
 exact sgo 19 [.tmp 4] Tryz.func316
instance:bC 316 (type_of% @aQ8):=⟨@aQ8⟩
theorem aQ4 (p0 p1 r) (h:rE p0 p1=some r):Sc 512 [aL M.aC.en p0,aI p1] [rI r]:=by
 have i1:=inv fun m s=>∃v1:Int,∃v5:Int,(s.t 0=vL M.aC.en p0∧s.t 1=vI v1∧s.t 5=vI v5)∧pA p0 m v1 v5=some r
 have e1:=@pA.eq_2
 unfold rE at h
 exact sgo 27 [.tmp 4] Tryz.func512
instance:bC 512 (type_of% @aQ4):=⟨@aQ4⟩
theorem aO4 (p0 p1 r) (h:lV p0 p1=some r):Sc 537 [aX (M.aE.en p0),aI p1] [rI r]:=by
 unfold lV at h
 exact sgo 20 [.tmp 4] Tryz.func537
instance:bC 537 (type_of% @aO4):=⟨@aO4⟩
theorem aOY (p0 p1 r) (h:kR p0 p1=some r):Sc 513 [aL M.aE.en p0,aI p1] [rI r]:=by
 have i1:=inv fun m s=>∃v1:Int,∃v5:Int,(s.t 0=vL M.aE.en p0∧s.t 1=vI v1∧s.t 5=vI v5)∧kN p0 m v1 v5=some r
 have e1:=@kN.eq_2
 unfold kR at h
 exact sgo 27 [.tmp 4] Tryz.func513
instance:bC 513 (type_of% @aOY):=⟨@aOY⟩
theorem aPg (p0 p1 r) (h:mN p0 p1=some r):Sc 481 [aX (M.Database.en p0),aI p1] [rI r]:=by
 unfold mN at h
 exact sgo 25 [.tmp 4] Tryz.func481
instance:bC 481 (type_of% @aPg):=⟨@aPg⟩
theorem aQO (p0 p1 r) (h:vJ p0 p1=some r):Sc 421 [aX (M.fQ.en p0),aI p1] [rI r]:=by
 unfold vJ at h
 exact sgo 18 [.tmp 4] Tryz.func421
instance:bC 421 (type_of% @aQO):=⟨@aQO⟩
theorem aPx (p0 p1 r) (h:uC p0 p1=some r):Sc 424 [aX (M.bM.en p0),aI p1] [rI r]:=by
 unfold uC at h
 exact sgo 19 [.tmp 4] Tryz.func424
instance:bC 424 (type_of% @aPx):=⟨@aPx⟩
theorem aQ2 (p0 p1 r) (h:mG p0 p1=some r):Sc 318 [aL M.bM.en p0,aI p1] [rI r]:=by
 have i1:=inv fun m s=>∃v1:Int,∃v5:Int,(s.t 0=vL M.bM.en p0∧s.t 1=vI v1∧s.t 5=vI v5)∧oY p0 m v1 v5=some r
 have e1:=@oY.eq_2
 unfold mG at h
 exact sgo 27 [.tmp 4] Tryz.func318
instance:bC 318 (type_of% @aQ2):=⟨@aQ2⟩
theorem aO2 (p0 p1 r) (h:pX p0 p1=some r):Sc 514 [aX (M.bH.en p0),aI p1] [rI r]:=by
 unfold pX at h
 exact sgo 12 [.tmp 4] Tryz.func514
instance:bC 514 (type_of% @aO2):=⟨@aO2⟩
theorem aQu (p0 p1 r) (h:wP p0 p1=some r):Sc 483 [aX (M.Sync.en p0),aI p1] [rI r]:=by
 unfold wP at h
 exact sgo 12 [.tmp 4] Tryz.func483
instance:bC 483 (type_of% @aQu):=⟨@aQu⟩
theorem aOs (p0 p1 r) (h:oI p0 p1=some r):Sc 422 [aX (M.aK.en p0),aI p1] [rI r]:=by
 unfold oI at h
 exact sgo 18 [.tmp 4] Tryz.func422
instance:bC 422 (type_of% @aOs):=⟨@aOs⟩
theorem aQp (p0 p1 r) (h:rU p0 p1=some r):Sc 313 [aX (M.Bucket.en p0),aI p1] [rI r]:=by
 unfold rU at h
 exact sgo 44 [.tmp 4] Tryz.func313
instance:bC 313 (type_of% @aQp):=⟨@aQp⟩
theorem aOy (p0 p1 r) (h:nP p0 p1=some r):Sc 166 [aL M.Bucket.en p0,aI p1] [rI r]:=by
 have i1:=inv fun m s=>∃v1:Int,∃v5:Int,(s.t 0=vL M.Bucket.en p0∧s.t 1=vI v1∧s.t 5=vI v5)∧nD p0 m v1 v5=some r
 have e1:=@nD.eq_2
 unfold nP at h
 exact sgo 27 [.tmp 4] Tryz.func166
instance:bC 166 (type_of% @aOy):=⟨@aOy⟩
theorem c62 (p0 p1 r) (h:nH p0 p1=some r):Sc 62 [aX (M.aM.en p0),aI p1] [rI r]:=by
 unfold nH at h
 exact sgo 12 [.tmp 4] Tryz.func62
instance:bC 62 (type_of% @c62):=⟨@c62⟩
theorem aOg (p0 p1 r) (h:pL p0 p1=some r):Sc 171 [aX (M.aT.en p0),aI p1] [rI r]:=by
 unfold pL at h
 exact sgo 13 [.tmp 4] Tryz.func171
instance:bC 171 (type_of% @aOg):=⟨@aOg⟩
theorem c68 (p0 p1 r) (h:nQ p0 p1=some r):Sc 68 [aL M.aT.en p0,aI p1] [rI r]:=by
 have i1:=inv fun m s=>∃v1:Int,∃v5:Int,(s.t 0=vL M.aT.en p0∧s.t 1=vI v1∧s.t 5=vI v5)∧nC p0 m v1 v5=some r
 have e1:=@nC.eq_2
 unfold nQ at h
 exact sgo 27 [.tmp 4] Tryz.func68
instance:bC 68 (type_of% @c68):=⟨@c68⟩
theorem aPp (p0 p1 r) (h:tA p0 p1=some r):Sc 319 [aX (M.Instr.en p0),aI p1] [rI r]:=by
 unfold tA at h
 exact sgo 13 [.tmp 4] Tryz.func319
instance:bC 319 (type_of% @aPp):=⟨@aPp⟩
theorem aOI (p0 p1 r) (h:rJ p0 p1=some r):Sc 172 [aL M.Instr.en p0,aI p1] [rI r]:=by
 have i1:=inv fun m s=>∃v1:Int,∃v5:Int,(s.t 0=vL M.Instr.en p0∧s.t 1=vI v1∧s.t 5=vI v5)∧pB p0 m v1 v5=some r
 have e1:=@pB.eq_2
 unfold rJ at h
 exact sgo 27 [.tmp 4] Tryz.func172
instance:bC 172 (type_of% @aOI):=⟨@aOI⟩
theorem aPZ (p0 p1 r) (h:wI p0 p1=some r):Sc 173 [aL enI p0,aI p1] [rI r]:=by
 unfold wI at h
 exact sgo 12 [.tmp 4] Tryz.func173
instance:bC 173 (type_of% @aPZ):=⟨@aPZ⟩
theorem c69 (p0 p1 r) (h:oL p0 p1=some r):Sc 69 [aX (M.Machine.en p0),aI p1] [rI r]:=by
 unfold oL at h
 exact sgo 18 [.tmp 4] Tryz.func69
instance:bC 69 (type_of% @c69):=⟨@c69⟩
theorem c20 (p0 p1 r) (h:sN p0 p1=some r):Sc 20 [aX (M.gX.en p0),aI p1] [rI r]:=by
 unfold sN at h
 exact sgo 32 [.tmp 4] Tryz.func20
instance:bC 20 (type_of% @c20):=⟨@c20⟩
theorem c63 (p0 p1 r) (h:tP p0 p1=some r):Sc 63 [aL M.gX.en p0,aI p1] [rI r]:=by
 have i1:=inv fun m s=>∃v1:Int,∃v5:Int,(s.t 0=vL M.gX.en p0∧s.t 1=vI v1∧s.t 5=vI v5)∧sO p0 m v1 v5=some r
 have e1:=@sO.eq_2
 unfold tP at h
 exact sgo 27 [.tmp 4] Tryz.func63
instance:bC 63 (type_of% @c63):=⟨@c63⟩
theorem aOx (p0 p1 r) (h:wQ p0 p1=some r):Sc 314 [aX (M.kI.en p0),aI p1] [rI r]:=by
 unfold wQ at h
 exact sgo 13 [.tmp 4] Tryz.func314
instance:bC 314 (type_of% @aOx):=⟨@aOx⟩
theorem aPN (p0 p1 r) (h:tM p0 p1=some r):Sc 167 [aL M.kI.en p0,aI p1] [rI r]:=by
 have i1:=inv fun m s=>∃v1:Int,∃v5:Int,(s.t 0=vL M.kI.en p0∧s.t 1=vI v1∧s.t 5=vI v5)∧sK p0 m v1 v5=some r
 have e1:=@sK.eq_2
 unfold tM at h
 exact sgo 27 [.tmp 4] Tryz.func167
instance:bC 167 (type_of% @aPN):=⟨@aPN⟩
theorem c64 (p0 p1 r) (h:kT p0 p1=some r):Sc 64 [aX (M.bA.en p0),aI p1] [rI r]:=by
 unfold kT at h
 exact sgo 12 [.tmp 4] Tryz.func64
instance:bC 64 (type_of% @c64):=⟨@c64⟩
theorem aPJ (p0 p1 r) (h:tX p0 p1=some r):Sc 168 [aL M.pC.en p0,aI p1] [rI r]:=by
 unfold tX at h
 exact sgo 12 [.tmp 4] Tryz.func168
instance:bC 168 (type_of% @aPJ):=⟨@aPJ⟩
theorem c65 (p0 p1 r) (h:oG p0 p1=some r):Sc 65 [aX (M.Channel.en p0),aI p1] [rI r]:=by
 unfold oG at h
 exact sgo 12 [.tmp 4] Tryz.func65
instance:bC 65 (type_of% @c65):=⟨@c65⟩
theorem aQi (p0 p1 r) (h:nE p0 p1=some r):Sc 315 [aL enS p0,aI p1] [rI r]:=by
 have i1:=inv fun m s=>∃v1:Int,∃v5:Int,(s.t 0=vL enS p0∧s.t 1=vI v1∧s.t 5=vI v5)∧nB p0 m v1 v5=some r
 have e1:=@nB.eq_2
 unfold nE at h
 exact sgo 28 [.tmp 4] Tryz.func315
instance:bC 315 (type_of% @aQi):=⟨@aQi⟩
theorem aQ1 (p0 p1 r) (h:vT p0 p1=some r):Sc 169 [aX (M.Site.en p0),aI p1] [rI r]:=by
 unfold vT at h
 exact sgo 19 [.tmp 4] Tryz.func169
instance:bC 169 (type_of% @aQ1):=⟨@aQ1⟩
theorem c66 (p0 p1 r) (h:uO p0 p1=some r):Sc 66 [aL M.Site.en p0,aI p1] [rI r]:=by
 have i1:=inv fun m s=>∃v1:Int,∃v5:Int,(s.t 0=vL M.Site.en p0∧s.t 1=vI v1∧s.t 5=vI v5)∧sH p0 m v1 v5=some r
 have e1:=@sH.eq_2
 unfold uO at h
 exact sgo 27 [.tmp 4] Tryz.func66
instance:bC 66 (type_of% @c66):=⟨@c66⟩
theorem aRL (p0 p1 r) (h:mE p0 p1=some r):Sc 317 [aL M.aO.en p0,aI p1] [rI r]:=by
 unfold mE at h
 exact sgo 12 [.tmp 4] Tryz.func317
instance:bC 317 (type_of% @aRL):=⟨@aRL⟩
theorem aPV (p0 p1 r) (h:pG p0 p1=some r):Sc 170 [aX (M.Server.en p0),aI p1] [rI r]:=by
 unfold pG at h
 exact sgo 24 [.tmp 4] Tryz.func170
instance:bC 170 (type_of% @aPV):=⟨@aPV⟩
theorem c67 (p0 p1 r) (h:oP p0 p1=some r):Sc 67 [aL M.Server.en p0,aI p1] [rI r]:=by
 have i1:=inv fun m s=>∃v1:Int,∃v5:Int,(s.t 0=vL M.Server.en p0∧s.t 1=vI v1∧s.t 5=vI v5)∧mX p0 m v1 v5=some r
 have e1:=@mX.eq_2
 unfold oP at h
 exact sgo 27 [.tmp 4] Tryz.func67
instance:bC 67 (type_of% @c67):=⟨@c67⟩
theorem c19 (p0 p1 r) (h:tT p0 p1=some r):Sc 19 [aX (M.World.en p0),aI p1] [rI r]:=by
 unfold tT at h
 exact sgo 42 [.tmp 4] Tryz.func19
instance:bC 19 (type_of% @c19):=⟨@c19⟩
end Go.Proofs.YtidhkhdnjonjfaaGreat.gen
