/-
  Helper text. No conditions.
-/
import Derived.Test.YtidhkhdnjonjfaaGreatReadNoteTi
set_option linter.unusedVariables false
set_option linter.unusedSimpArgs false
namespace Go.Proofs.YtidhkhdnjonjfaaGreat.gen
open Go Go.Sh
set_option maxRecDepth 20000
set_option maxHeartbeats 4000000
theorem aOF (p0 p1 r) (h:hE p0 p1=some r):Sc 442 [aX (M.Registration.en p0),aX (M.Registration.en p1)] [rB r]:=by
 unfold hE at h
 exact sgo 25 [.tmp 4] Tryz.func442
instance:bC 442 (type_of% @aOF):=⟨@aOF⟩
theorem aP1 (p0 p1 r) (h:oS p0 p1=some r):Sc 502 [aL enB p0,aL enB p1] [rB r]:=by
 have i1:=inv fun m s=>∃v5:Int,(s.t 0=vL enB p0∧s.t 1=vL enB p1∧s.t 5=vI v5)∧jC p0 p1 m v5=some r
 have e1:=@jC.eq_2
 unfold oS at h
 exact sgo 26 [.tmp 4] Tryz.func502
instance:bC 502 (type_of% @aP1):=⟨@aP1⟩
theorem aN9 (p0 p1 r) (h:mI p0 p1=some r):Sc 558 [aX (M.Response.en p0),aX (M.Response.en p1)] [rB r]:=by
 unfold mI at h
 exact sgo 31 [.tmp 4] Tryz.func558
instance:bC 558 (type_of% @aN9):=⟨@aN9⟩
theorem aPK (p0 p1 r) (h:rD p0 p1=some r):Sc 553 [aX (M.Cached.en p0),aX (M.Cached.en p1)] [rB r]:=by
 unfold rD at h
 exact sgo 21 [.tmp 4] Tryz.func553
instance:bC 553 (type_of% @aPK):=⟨@aPK⟩
theorem aQa (p0 p1 r) (h:nT p0 p1=some r):Sc 545 [aL M.Cached.en p0,aL M.Cached.en p1] [rB r]:=by
 have i1:=inv fun m s=>∃v5:Int,(s.t 0=vL M.Cached.en p0∧s.t 1=vL M.Cached.en p1∧s.t 5=vI v5)∧gJ p0 p1 m v5=some r
 have e1:=@gJ.eq_2
 unfold nT at h
 exact sgo 27 [.tmp 4] Tryz.func545
instance:bC 545 (type_of% @aQa):=⟨@aQa⟩
theorem aOc (p0 p1 r) (h:uI p0 p1=some r):Sc 528 [aX (M.Cache.en p0),aX (M.Cache.en p1)] [rB r]:=by
 unfold uI at h
 exact sgo 16 [.tmp 4] Tryz.func528
instance:bC 528 (type_of% @aOc):=⟨@aOc⟩
theorem aO3 (p0 p1 r) (h:rG p0 p1=some r):Sc 500 [aL M.Cache.en p0,aL M.Cache.en p1] [rB r]:=by
 have i1:=inv fun m s=>∃v5:Int,(s.t 0=vL M.Cache.en p0∧s.t 1=vL M.Cache.en p1∧s.t 5=vI v5)∧iC p0 p1 m v5=some r
 have e1:=@iC.eq_2
 unfold rG at h
 exact sgo 27 [.tmp 4] Tryz.func500
instance:bC 500 (type_of% @aO3):=⟨@aO3⟩
theorem aQV (p0 p1 r) (h:mC p0 p1=some r):Sc 443 [aX (M.bF.en p0),aX (M.bF.en p1)] [rB r]:=by
 unfold mC at h
 exact sgo 11 [.tmp 4] Tryz.func443
instance:bC 443 (type_of% @aQV):=⟨@aQV⟩
theorem aRJ (p0 p1 r) (h:vE p0 p1=some r):Sc 505 [aX (M.Key.en p0),aX (M.Key.en p1)] [rB r]:=by
 unfold vE at h
 exact sgo 20 [.tmp 4] Tryz.func505
instance:bC 505 (type_of% @aRJ):=⟨@aRJ⟩
theorem aPC (p0 p1 r) (h:tB p0 p1=some r):Sc 554 [aX (M.Field.en p0),aX (M.Field.en p1)] [rB r]:=by
 unfold tB at h
 exact sgo 15 [.tmp 4] Tryz.func554
instance:bC 554 (type_of% @aPC):=⟨@aPC⟩
theorem aOD (p0 p1 r) (h:rL p0 p1=some r):Sc 547 [aL M.Field.en p0,aL M.Field.en p1] [rB r]:=by
 have i1:=inv fun m s=>∃v5:Int,(s.t 0=vL M.Field.en p0∧s.t 1=vL M.Field.en p1∧s.t 5=vI v5)∧hZ p0 p1 m v5=some r
 have e1:=@hZ.eq_2
 unfold rL at h
 exact sgo 27 [.tmp 4] Tryz.func547
instance:bC 547 (type_of% @aOD):=⟨@aOD⟩
theorem aP4 (p0 p1 r) (h:rM p0 p1=some r):Sc 532 [aX (M.aA.en p0),aX (M.aA.en p1)] [rB r]:=by
 unfold rM at h
 exact sgo 11 [.tmp 4] Tryz.func532
instance:bC 532 (type_of% @aP4):=⟨@aP4⟩
theorem aP7 (p0 p1 r) (h:vO p0 p1=some r):Sc 504 [aX (M.Item.en p0),aX (M.Item.en p1)] [rB r]:=by
 unfold vO at h
 exact sgo 17 [.tmp 4] Tryz.func504
instance:bC 504 (type_of% @aP7):=⟨@aP7⟩
theorem aQd (p0 p1 r) (h:uL p0 p1=some r):Sc 446 [aL M.Item.en p0,aL M.Item.en p1] [rB r]:=by
 have i1:=inv fun m s=>∃v5:Int,(s.t 0=vL M.Item.en p0∧s.t 1=vL M.Item.en p1∧s.t 5=vI v5)∧jB p0 p1 m v5=some r
 have e1:=@jB.eq_2
 unfold uL at h
 exact sgo 27 [.tmp 4] Tryz.func446
instance:bC 446 (type_of% @aQd):=⟨@aQd⟩
theorem aQJ (p0 p1 r) (h:lP p0 p1=some r):Sc 349 [aX (M.aC.en p0),aX (M.aC.en p1)] [rB r]:=by
 unfold lP at h
 exact sgo 21 [.tmp 4] Tryz.func349
instance:bC 349 (type_of% @aQJ):=⟨@aQJ⟩
theorem aRC (p0 p1 r) (h:pH p0 p1=some r):Sc 529 [aL M.aC.en p0,aL M.aC.en p1] [rB r]:=by
 have i1:=inv fun m s=>∃v5:Int,(s.t 0=vL M.aC.en p0∧s.t 1=vL M.aC.en p1∧s.t 5=vI v5)∧hU p0 p1 m v5=some r
 have e1:=@hU.eq_2
 unfold pH at h
 exact sgo 27 [.tmp 4] Tryz.func529
instance:bC 529 (type_of% @aRC):=⟨@aRC⟩
theorem aQX (p0 p1 r) (h:mL p0 p1=some r):Sc 546 [aX (M.aE.en p0),aX (M.aE.en p1)] [rB r]:=by
 unfold mL at h
 exact sgo 15 [.tmp 4] Tryz.func546
instance:bC 546 (type_of% @aQX):=⟨@aQX⟩
theorem aPG (p0 p1 r) (h:kW p0 p1=some r):Sc 530 [aL M.aE.en p0,aL M.aE.en p1] [rB r]:=by
 have i1:=inv fun m s=>∃v5:Int,(s.t 0=vL M.aE.en p0∧s.t 1=vL M.aE.en p1∧s.t 5=vI v5)∧eZ p0 p1 m v5=some r
 have e1:=@eZ.eq_2
 unfold kW at h
 exact sgo 27 [.tmp 4] Tryz.func530
instance:bC 530 (type_of% @aPG):=⟨@aPG⟩
theorem aQH (p0 p1 r) (h:mQ p0 p1=some r):Sc 501 [aX (M.Database.en p0),aX (M.Database.en p1)] [rB r]:=by
 unfold mQ at h
 exact sgo 27 [.tmp 4] Tryz.func501
instance:bC 501 (type_of% @aQH):=⟨@aQH⟩
theorem aQ5 (p0 p1 r) (h:wE p0 p1=some r):Sc 444 [aX (M.fQ.en p0),aX (M.fQ.en p1)] [rB r]:=by
 unfold wE at h
 exact sgo 22 [.tmp 4] Tryz.func444
instance:bC 444 (type_of% @aQ5):=⟨@aQ5⟩
theorem aO1 (p0 p1 r) (h:tH p0 p1=some r):Sc 448 [aX (M.bM.en p0),aX (M.bM.en p1)] [rB r]:=by
 unfold tH at h
 exact sgo 31 [.tmp 4] Tryz.func448
instance:bC 448 (type_of% @aO1):=⟨@aO1⟩
theorem aOn (p0 p1 r) (h:mS p0 p1=some r):Sc 351 [aL M.bM.en p0,aL M.bM.en p1] [rB r]:=by
 have i1:=inv fun m s=>∃v5:Int,(s.t 0=vL M.bM.en p0∧s.t 1=vL M.bM.en p1∧s.t 5=vI v5)∧iE p0 p1 m v5=some r
 have e1:=@iE.eq_2
 unfold mS at h
 exact sgo 27 [.tmp 4] Tryz.func351
instance:bC 351 (type_of% @aOn):=⟨@aOn⟩
theorem aPo (p0 p1 r) (h:rO p0 p1=some r):Sc 531 [aX (M.bH.en p0),aX (M.bH.en p1)] [rB r]:=by
 unfold rO at h
 exact sgo 21 [.tmp 4] Tryz.func531
instance:bC 531 (type_of% @aPo):=⟨@aPo⟩
theorem aOQ (p0 p1 r) (h:vW p0 p1=some r):Sc 503 [aX (M.Sync.en p0),aX (M.Sync.en p1)] [rB r]:=by
 unfold vW at h
 exact sgo 21 [.tmp 4] Tryz.func503
instance:bC 503 (type_of% @aOQ):=⟨@aOQ⟩
theorem aOe (p0 p1 r) (h:nW p0 p1=some r):Sc 445 [aX (M.aK.en p0),aX (M.aK.en p1)] [rB r]:=by
 unfold nW at h
 exact sgo 22 [.tmp 4] Tryz.func445
instance:bC 445 (type_of% @aOe):=⟨@aOe⟩
theorem aRD (p0 p1 r) (h:pR p0 p1=some r):Sc 345 [aX (M.Bucket.en p0),aX (M.Bucket.en p1)] [rB r]:=by
 unfold pR at h
 exact sgo 49 [.tmp 4] Tryz.func345
instance:bC 345 (type_of% @aRD):=⟨@aRD⟩
theorem aOo (p0 p1 r) (h:oF p0 p1=some r):Sc 194 [aL M.Bucket.en p0,aL M.Bucket.en p1] [rB r]:=by
 have i1:=inv fun m s=>∃v5:Int,(s.t 0=vL M.Bucket.en p0∧s.t 1=vL M.Bucket.en p1∧s.t 5=vI v5)∧fY p0 p1 m v5=some r
 have e1:=@fY.eq_2
 unfold oF at h
 exact sgo 27 [.tmp 4] Tryz.func194
instance:bC 194 (type_of% @aOo):=⟨@aOo⟩
theorem c86 (p0 p1 r) (h:oE p0 p1=some r):Sc 86 [aX (M.aM.en p0),aX (M.aM.en p1)] [rB r]:=by
 unfold oE at h
 exact sgo 11 [.tmp 4] Tryz.func86
instance:bC 86 (type_of% @c86):=⟨@c86⟩
theorem aPz (p0 p1 r) (h:pE p0 p1=some r):Sc 199 [aX (M.aT.en p0),aX (M.aT.en p1)] [rB r]:=by
 unfold pE at h
 exact sgo 15 [.tmp 4] Tryz.func199
instance:bC 199 (type_of% @aPz):=⟨@aPz⟩
theorem c92 (p0 p1 r) (h:oH p0 p1=some r):Sc 92 [aL M.aT.en p0,aL M.aT.en p1] [rB r]:=by
 have i1:=inv fun m s=>∃v5:Int,(s.t 0=vL M.aT.en p0∧s.t 1=vL M.aT.en p1∧s.t 5=vI v5)∧gO p0 p1 m v5=some r
 have e1:=@gO.eq_2
 unfold oH at h
 exact sgo 27 [.tmp 4] Tryz.func92
instance:bC 92 (type_of% @c92):=⟨@c92⟩
theorem aPn (p0 p1 r) (h:sZ p0 p1=some r):Sc 352 [aX (M.Instr.en p0),aX (M.Instr.en p1)] [rB r]:=by
 unfold sZ at h
 exact sgo 25 [.tmp 4] Tryz.func352
instance:bC 352 (type_of% @aPn):=⟨@aPn⟩
theorem aOh (p0 p1 r) (h:rF p0 p1=some r):Sc 200 [aL M.Instr.en p0,aL M.Instr.en p1] [rB r]:=by
 have i1:=inv fun m s=>∃v5:Int,(s.t 0=vL M.Instr.en p0∧s.t 1=vL M.Instr.en p1∧s.t 5=vI v5)∧iA p0 p1 m v5=some r
 have e1:=@iA.eq_2
 unfold rF at h
 exact sgo 27 [.tmp 4] Tryz.func200
instance:bC 200 (type_of% @aOh):=⟨@aOh⟩
theorem aOR (p0 p1 r) (h:wF p0 p1=some r):Sc 201 [aL enI p0,aL enI p1] [rB r]:=by
 have i1:=inv fun m s=>∃v5:Int,(s.t 0=vL enI p0∧s.t 1=vL enI p1∧s.t 5=vI v5)∧kD p0 p1 m v5=some r
 have e1:=@kD.eq_2
 unfold wF at h
 exact sgo 26 [.tmp 4] Tryz.func201
instance:bC 201 (type_of% @aOR):=⟨@aOR⟩
theorem c93 (p0 p1 r) (h:nF p0 p1=some r):Sc 93 [aX (M.Machine.en p0),aX (M.Machine.en p1)] [rB r]:=by
 unfold nF at h
 exact sgo 37 [.tmp 4] Tryz.func93
instance:bC 93 (type_of% @c93):=⟨@c93⟩
theorem c26 (p0 p1 r) (h:sE p0 p1=some r):Sc 26 [aX (M.gX.en p0),aX (M.gX.en p1)] [rB r]:=by
 unfold sE at h
 exact sgo 37 [.tmp 4] Tryz.func26
instance:bC 26 (type_of% @c26):=⟨@c26⟩
theorem c87 (p0 p1 r) (h:tV p0 p1=some r):Sc 87 [aL M.gX.en p0,aL M.gX.en p1] [rB r]:=by
 have i1:=inv fun m s=>∃v5:Int,(s.t 0=vL M.gX.en p0∧s.t 1=vL M.gX.en p1∧s.t 5=vI v5)∧jH p0 p1 m v5=some r
 have e1:=@jH.eq_2
 unfold tV at h
 exact sgo 27 [.tmp 4] Tryz.func87
instance:bC 87 (type_of% @c87):=⟨@c87⟩
theorem aQl (p0 p1 r) (h:wL p0 p1=some r):Sc 346 [aX (M.kI.en p0),aX (M.kI.en p1)] [rB r]:=by
 unfold wL at h
 exact sgo 25 [.tmp 4] Tryz.func346
instance:bC 346 (type_of% @aQl):=⟨@aQl⟩
theorem aP0 (p0 p1 r) (h:tI p0 p1=some r):Sc 195 [aL M.kI.en p0,aL M.kI.en p1] [rB r]:=by
 have i1:=inv fun m s=>∃v5:Int,(s.t 0=vL M.kI.en p0∧s.t 1=vL M.kI.en p1∧s.t 5=vI v5)∧jJ p0 p1 m v5=some r
 have e1:=@jJ.eq_2
 unfold tI at h
 exact sgo 27 [.tmp 4] Tryz.func195
instance:bC 195 (type_of% @aP0):=⟨@aP0⟩
theorem c88 (p0 p1 r) (h:kX p0 p1=some r):Sc 88 [aX (M.bA.en p0),aX (M.bA.en p1)] [rB r]:=by
 unfold kX at h
 exact sgo 11 [.tmp 4] Tryz.func88
instance:bC 88 (type_of% @c88):=⟨@c88⟩
theorem aOu (p0 p1 r) (h:wN p0 p1=some r):Sc 347 [aX (M.pC.en p0),aX (M.pC.en p1)] [rB r]:=by
 unfold wN at h
 exact sgo 20 [.tmp 4] Tryz.func347
instance:bC 347 (type_of% @aOu):=⟨@aOu⟩
theorem aQE (p0 p1 r) (h:uD p0 p1=some r):Sc 196 [aL M.pC.en p0,aL M.pC.en p1] [rB r]:=by
 have i1:=inv fun m s=>∃v5:Int,(s.t 0=vL M.pC.en p0∧s.t 1=vL M.pC.en p1∧s.t 5=vI v5)∧jN p0 p1 m v5=some r
 have e1:=@jN.eq_2
 unfold uD at h
 exact sgo 27 [.tmp 4] Tryz.func196
instance:bC 196 (type_of% @aQE):=⟨@aQE⟩
theorem c89 (p0 p1 r) (h:nV p0 p1=some r):Sc 89 [aX (M.Channel.en p0),aX (M.Channel.en p1)] [rB r]:=by
 unfold nV at h
 exact sgo 11 [.tmp 4] Tryz.func89
instance:bC 89 (type_of% @c89):=⟨@c89⟩
theorem aQy (p0 p1 r) (h:oC p0 p1=some r):Sc 348 [aL enS p0,aL enS p1] [rB r]:=by
 have i1:=inv fun m s=>∃v5:Int,(s.t 0=vL enS p0∧s.t 1=vL enS p1∧s.t 5=vI v5)∧gF p0 p1 m v5=some r
 have e1:=@gF.eq_2
 unfold oC at h
 exact sgo 26 [.tmp 4] Tryz.func348
instance:bC 348 (type_of% @aQy):=⟨@aQy⟩
theorem aPl (p0 p1 r) (h:vN p0 p1=some r):Sc 197 [aX (M.Site.en p0),aX (M.Site.en p1)] [rB r]:=by
 unfold vN at h
 exact sgo 26 [.tmp 4] Tryz.func197
instance:bC 197 (type_of% @aPl):=⟨@aPl⟩
theorem c90 (p0 p1 r) (h:uP p0 p1=some r):Sc 90 [aL M.Site.en p0,aL M.Site.en p1] [rB r]:=by
 have i1:=inv fun m s=>∃v5:Int,(s.t 0=vL M.Site.en p0∧s.t 1=vL M.Site.en p1∧s.t 5=vI v5)∧jD p0 p1 m v5=some r
 have e1:=@jD.eq_2
 unfold uP at h
 exact sgo 27 [.tmp 4] Tryz.func90
instance:bC 90 (type_of% @c90):=⟨@c90⟩
theorem aPv (p0 p1 r) (h:nL p0 p1=some r):Sc 447 [aX (M.aO.en p0),aX (M.aO.en p1)] [rB r]:=by
 unfold nL at h
 exact sgo 15 [.tmp 4] Tryz.func447
instance:bC 447 (type_of% @aPv):=⟨@aPv⟩
theorem aRE (p0 p1 r) (h:lY p0 p1=some r):Sc 350 [aL M.aO.en p0,aL M.aO.en p1] [rB r]:=by
 have i1:=inv fun m s=>∃v5:Int,(s.t 0=vL M.aO.en p0∧s.t 1=vL M.aO.en p1∧s.t 5=vI v5)∧fO p0 p1 m v5=some r
 have e1:=@fO.eq_2
 unfold lY at h
 exact sgo 27 [.tmp 4] Tryz.func350
instance:bC 350 (type_of% @aRE):=⟨@aRE⟩
theorem aQc (p0 p1 r) (h:pS p0 p1=some r):Sc 198 [aX (M.Server.en p0),aX (M.Server.en p1)] [rB r]:=by
 unfold pS at h
 exact sgo 23 [.tmp 4] Tryz.func198
instance:bC 198 (type_of% @aQc):=⟨@aQc⟩
theorem c91 (p0 p1 r) (h:nZ p0 p1=some r):Sc 91 [aL M.Server.en p0,aL M.Server.en p1] [rB r]:=by
 have i1:=inv fun m s=>∃v5:Int,(s.t 0=vL M.Server.en p0∧s.t 1=vL M.Server.en p1∧s.t 5=vI v5)∧gE p0 p1 m v5=some r
 have e1:=@gE.eq_2
 unfold nZ at h
 exact sgo 27 [.tmp 4] Tryz.func91
instance:bC 91 (type_of% @c91):=⟨@c91⟩
theorem c25 (p0 p1 r) (h:uF p0 p1=some r):Sc 25 [aX (M.World.en p0),aX (M.World.en p1)] [rB r]:=by
 unfold uF at h
 exact sgo 61 [.tmp 4] Tryz.func25
instance:bC 25 (type_of% @c25):=⟨@c25⟩
end Go.Proofs.YtidhkhdnjonjfaaGreat.gen
