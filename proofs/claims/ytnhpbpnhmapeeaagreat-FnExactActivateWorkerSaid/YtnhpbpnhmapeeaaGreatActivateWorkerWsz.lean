/-
  Helper text. No conditions.
-/
import Derived.Test.YtnhpbpnhmapeeaaGreatActivateWorkerTi
namespace Go.Proofs.YtnhpbpnhmapeeaaGreat.gen
open Go Go.Sh
set_option linter.unusedVariables false
set_option linter.unusedSimpArgs false
set_option maxRecDepth 20000
set_option maxHeartbeats 4000000
theorem aVF (p0 p1 r) (h:kE p0 p1=some r):Sc 348 [aX (M.Registration.en p0),aI p1] [rI r]:=by
 unfold kE at h
 exact sgo 13 [.tmp 4] Tryz.func348
instance:bC 348 (type_of% @aVF):=⟨@aVF⟩
theorem aR6 (p0 p1 r) (h:uX p0 p1=some r):Sc 411 [aL enB p0,aI p1] [rI r]:=by
 unfold uX at h
 exact sgo 12 [.tmp 4] Tryz.func411
instance:bC 411 (type_of% @aR6):=⟨@aR6⟩
theorem aT4 (p0 p1 r) (h:qV p0 p1=some r):Sc 491 [aX (M.Response.en p0),aI p1] [rI r]:=by
 unfold qV at h
 exact sgo 12 [.tmp 4] Tryz.func491
instance:bC 491 (type_of% @aT4):=⟨@aT4⟩
theorem aVl (p0 p1 r) (h:wF p0 p1=some r):Sc 485 [aX (M.Cached.en p0),aI p1] [rI r]:=by
 unfold wF at h
 exact sgo 26 [.tmp 4] Tryz.func485
instance:bC 485 (type_of% @aVl):=⟨@aVl⟩
theorem aSN (p0 p1 r) (h:tH p0 p1=some r):Sc 474 [aL M.Cached.en p0,aI p1] [rI r]:=by
 have i1:=inv fun m s=>∃v1:Int,∃v5:Int,(s.t 0=vL M.Cached.en p0∧s.t 1=vI v1∧s.t 5=vI v5)∧sB p0 m v1 v5=some r
 have e1:=@sB.eq_2
 unfold tH at h
 exact sgo 27 [.tmp 4] Tryz.func474
instance:bC 474 (type_of% @aSN):=⟨@aSN⟩
theorem aS2 (p0 p1 r) (h:zS p0 p1=some r):Sc 451 [aX (M.Cache.en p0),aI p1] [rI r]:=by
 unfold zS at h
 exact sgo 12 [.tmp 4] Tryz.func451
instance:bC 451 (type_of% @aS2):=⟨@aS2⟩
theorem aTQ (p0 p1 r) (h:xP p0 p1=some r):Sc 409 [aL M.Cache.en p0,aI p1] [rI r]:=by
 have i1:=inv fun m s=>∃v1:Int,∃v5:Int,(s.t 0=vL M.Cache.en p0∧s.t 1=vI v1∧s.t 5=vI v5)∧vO p0 m v1 v5=some r
 have e1:=@vO.eq_2
 unfold xP at h
 exact sgo 27 [.tmp 4] Tryz.func409
instance:bC 409 (type_of% @aTQ):=⟨@aTQ⟩
theorem aUP (p0 p1 r) (h:rR p0 p1=some r):Sc 349 [aX (M.aM.en p0),aI p1] [rI r]:=by
 unfold rR at h
 exact sgo 12 [.tmp 4] Tryz.func349
instance:bC 349 (type_of% @aUP):=⟨@aUP⟩
theorem aRX (p0 p1 r) (h:aAS p0 p1=some r):Sc 414 [aX (M.Key.en p0),aI p1] [rI r]:=by
 unfold aAS at h
 exact sgo 13 [.tmp 4] Tryz.func414
instance:bC 414 (type_of% @aRX):=⟨@aRX⟩
theorem aSW (p0 p1 r) (h:zH p0 p1=some r):Sc 486 [aX (M.Field.en p0),aI p1] [rI r]:=by
 unfold zH at h
 exact sgo 13 [.tmp 4] Tryz.func486
instance:bC 486 (type_of% @aSW):=⟨@aSW⟩
theorem aTx (p0 p1 r) (h:wC p0 p1=some r):Sc 476 [aL M.Field.en p0,aI p1] [rI r]:=by
 have i1:=inv fun m s=>∃v1:Int,∃v5:Int,(s.t 0=vL M.Field.en p0∧s.t 1=vI v1∧s.t 5=vI v5)∧vJ p0 m v1 v5=some r
 have e1:=@vJ.eq_2
 unfold wC at h
 exact sgo 27 [.tmp 4] Tryz.func476
instance:bC 476 (type_of% @aTx):=⟨@aTx⟩
theorem aR9 (p0 p1 r) (h:xO p0 p1=some r):Sc 455 [aX (M.aU.en p0),aI p1] [rI r]:=by
 unfold xO at h
 exact sgo 12 [.tmp 4] Tryz.func455
instance:bC 455 (type_of% @aR9):=⟨@aR9⟩
theorem aU8 (p0 p1 r) (h:aAz p0 p1=some r):Sc 413 [aX (M.Item.en p0),aI p1] [rI r]:=by
 unfold aAz at h
 exact sgo 18 [.tmp 4] Tryz.func413
instance:bC 413 (type_of% @aU8):=⟨@aU8⟩
theorem aTf (p0 p1 r) (h:aAB p0 p1=some r):Sc 352 [aL M.Item.en p0,aI p1] [rI r]:=by
 have i1:=inv fun m s=>∃v1:Int,∃v5:Int,(s.t 0=vL M.Item.en p0∧s.t 1=vI v1∧s.t 5=vI v5)∧yC p0 m v1 v5=some r
 have e1:=@yC.eq_2
 unfold aAB at h
 exact sgo 27 [.tmp 4] Tryz.func352
instance:bC 352 (type_of% @aTf):=⟨@aTf⟩
theorem aSZ (p0 p1 r) (h:pL p0 p1=some r):Sc 270 [aX (M.aH.en p0),aI p1] [rI r]:=by
 unfold pL at h
 exact sgo 19 [.tmp 4] Tryz.func270
instance:bC 270 (type_of% @aSZ):=⟨@aSZ⟩
theorem aRs (p0 p1 r) (h:wW p0 p1=some r):Sc 452 [aL M.aH.en p0,aI p1] [rI r]:=by
 have i1:=inv fun m s=>∃v1:Int,∃v5:Int,(s.t 0=vL M.aH.en p0∧s.t 1=vI v1∧s.t 5=vI v5)∧vQ p0 m v1 v5=some r
 have e1:=@vQ.eq_2
 unfold wW at h
 exact sgo 27 [.tmp 4] Tryz.func452
instance:bC 452 (type_of% @aRs):=⟨@aRs⟩
theorem aRr (p0 p1 r) (h:qD p0 p1=some r):Sc 475 [aX (M.aD.en p0),aI p1] [rI r]:=by
 unfold qD at h
 exact sgo 20 [.tmp 4] Tryz.func475
instance:bC 475 (type_of% @aRr):=⟨@aRr⟩
theorem aR4 (p0 p1 r) (h:oL p0 p1=some r):Sc 453 [aL M.aD.en p0,aI p1] [rI r]:=by
 have i1:=inv fun m s=>∃v1:Int,∃v5:Int,(s.t 0=vL M.aD.en p0∧s.t 1=vI v1∧s.t 5=vI v5)∧oA p0 m v1 v5=some r
 have e1:=@oA.eq_2
 unfold oL at h
 exact sgo 27 [.tmp 4] Tryz.func453
instance:bC 453 (type_of% @aR4):=⟨@aR4⟩
theorem aRk (p0 p1 r) (h:rL p0 p1=some r):Sc 410 [aX (M.Database.en p0),aI p1] [rI r]:=by
 unfold rL at h
 exact sgo 25 [.tmp 4] Tryz.func410
instance:bC 410 (type_of% @aRk):=⟨@aRk⟩
theorem aVa (p0 p1 r) (h:aAW p0 p1=some r):Sc 350 [aX (M.bB.en p0),aI p1] [rI r]:=by
 unfold aAW at h
 exact sgo 18 [.tmp 4] Tryz.func350
instance:bC 350 (type_of% @aVa):=⟨@aVa⟩
theorem aSG (p0 p1 r) (h:zQ p0 p1=some r):Sc 353 [aX (M.aY.en p0),aI p1] [rI r]:=by
 unfold zQ at h
 exact sgo 19 [.tmp 4] Tryz.func353
instance:bC 353 (type_of% @aSG):=⟨@aSG⟩
theorem aTn (p0 p1 r) (h:qW p0 p1=some r):Sc 272 [aL M.aY.en p0,aI p1] [rI r]:=by
 have i1:=inv fun m s=>∃v1:Int,∃v5:Int,(s.t 0=vL M.aY.en p0∧s.t 1=vI v1∧s.t 5=vI v5)∧vK p0 m v1 v5=some r
 have e1:=@vK.eq_2
 unfold qW at h
 exact sgo 27 [.tmp 4] Tryz.func272
instance:bC 272 (type_of% @aTn):=⟨@aTn⟩
theorem aS3 (p0 p1 r) (h:wP p0 p1=some r):Sc 454 [aX (M.aV.en p0),aI p1] [rI r]:=by
 unfold wP at h
 exact sgo 12 [.tmp 4] Tryz.func454
instance:bC 454 (type_of% @aS3):=⟨@aS3⟩
theorem aTm (p0 p1 r) (h:aBF p0 p1=some r):Sc 412 [aX (M.Sync.en p0),aI p1] [rI r]:=by
 unfold aBF at h
 exact sgo 12 [.tmp 4] Tryz.func412
instance:bC 412 (type_of% @aTm):=⟨@aTm⟩
theorem aR7 (p0 p1 r) (h:uN p0 p1=some r):Sc 351 [aX (M.aE.en p0),aI p1] [rI r]:=by
 unfold uN at h
 exact sgo 18 [.tmp 4] Tryz.func351
instance:bC 351 (type_of% @aR7):=⟨@aR7⟩
theorem aVG (p0 p1 r) (h:xR p0 p1=some r):Sc 267 [aX (M.aA.en p0),aI p1] [rI r]:=by
 unfold xR at h
 exact sgo 44 [.tmp 4] Tryz.func267
instance:bC 267 (type_of% @aVG):=⟨@aVG⟩
theorem aSv (p0 p1 r) (h:tM p0 p1=some r):Sc 170 [aL M.aA.en p0,aI p1] [rI r]:=by
 have i1:=inv fun m s=>∃v1:Int,∃v5:Int,(s.t 0=vL M.aA.en p0∧s.t 1=vI v1∧s.t 5=vI v5)∧sO p0 m v1 v5=some r
 have e1:=@sO.eq_2
 unfold tM at h
 exact sgo 27 [.tmp 4] Tryz.func170
instance:bC 170 (type_of% @aSv):=⟨@aSv⟩
theorem c55 (p0 p1 r) (h:sZ p0 p1=some r):Sc 55 [aX (M.aC.en p0),aI p1] [rI r]:=by
 unfold sZ at h
 exact sgo 12 [.tmp 4] Tryz.func55
instance:bC 55 (type_of% @c55):=⟨@c55⟩
theorem aS8 (p0 p1 r) (h:wG p0 p1=some r):Sc 205 [aX (M.aN.en p0),aI p1] [rI r]:=by
 unfold wG at h
 exact sgo 13 [.tmp 4] Tryz.func205
instance:bC 205 (type_of% @aS8):=⟨@aS8⟩
theorem c88 (p0 p1 r) (h:tO p0 p1=some r):Sc 88 [aL M.aN.en p0,aI p1] [rI r]:=by
 have i1:=inv fun m s=>∃v1:Int,∃v5:Int,(s.t 0=vL M.aN.en p0∧s.t 1=vI v1∧s.t 5=vI v5)∧sN p0 m v1 v5=some r
 have e1:=@sN.eq_2
 unfold tO at h
 exact sgo 27 [.tmp 4] Tryz.func88
instance:bC 88 (type_of% @c88):=⟨@c88⟩
theorem aUY (p0 p1 r) (h:yM p0 p1=some r):Sc 115 [aX (M.Instr.en p0),aI p1] [rI r]:=by
 unfold yM at h
 exact sgo 13 [.tmp 4] Tryz.func115
instance:bC 115 (type_of% @aUY):=⟨@aUY⟩
theorem c29 (p0 p1 r) (h:xD p0 p1=some r):Sc 29 [aL M.Instr.en p0,aI p1] [rI r]:=by
 have i1:=inv fun m s=>∃v1:Int,∃v5:Int,(s.t 0=vL M.Instr.en p0∧s.t 1=vI v1∧s.t 5=vI v5)∧vW p0 m v1 v5=some r
 have e1:=@vW.eq_2
 unfold xD at h
 exact sgo 27 [.tmp 4] Tryz.func29
instance:bC 29 (type_of% @c29):=⟨@c29⟩
theorem aVk (p0 p1 r) (h:aA7 p0 p1=some r):Sc 206 [aL enI p0,aI p1] [rI r]:=by
 unfold aA7 at h
 exact sgo 12 [.tmp 4] Tryz.func206
instance:bC 206 (type_of% @aVk):=⟨@aVk⟩
theorem c89 (p0 p1 r) (h:uP p0 p1=some r):Sc 89 [aX (M.Machine.en p0),aI p1] [rI r]:=by
 unfold uP at h
 exact sgo 18 [.tmp 4] Tryz.func89
instance:bC 89 (type_of% @c89):=⟨@c89⟩
theorem c21 (p0 p1 r) (h:aA3 p0 p1=some r):Sc 21 [aX (M.bI.en p0),aI p1] [rI r]:=by
 unfold aA3 at h
 exact sgo 32 [.tmp 4] Tryz.func21
instance:bC 21 (type_of% @c21):=⟨@c21⟩
theorem c56 (p0 p1 r) (h:zB p0 p1=some r):Sc 56 [aL M.bI.en p0,aI p1] [rI r]:=by
 have i1:=inv fun m s=>∃v1:Int,∃v5:Int,(s.t 0=vL M.bI.en p0∧s.t 1=vI v1∧s.t 5=vI v5)∧yD p0 m v1 v5=some r
 have e1:=@yD.eq_2
 unfold zB at h
 exact sgo 27 [.tmp 4] Tryz.func56
instance:bC 56 (type_of% @c56):=⟨@c56⟩
theorem aT6 (p0 p1 r) (h:aBI p0 p1=some r):Sc 268 [aX (M.cG.en p0),aI p1] [rI r]:=by
 unfold aBI at h
 exact sgo 13 [.tmp 4] Tryz.func268
instance:bC 268 (type_of% @aT6):=⟨@aT6⟩
theorem aRy (p0 p1 r) (h:yX p0 p1=some r):Sc 171 [aL M.cG.en p0,aI p1] [rI r]:=by
 have i1:=inv fun m s=>∃v1:Int,∃v5:Int,(s.t 0=vL M.cG.en p0∧s.t 1=vI v1∧s.t 5=vI v5)∧yB p0 m v1 v5=some r
 have e1:=@yB.eq_2
 unfold yX at h
 exact sgo 27 [.tmp 4] Tryz.func171
instance:bC 171 (type_of% @aRy):=⟨@aRy⟩
theorem c57 (p0 p1 r) (h:oN p0 p1=some r):Sc 57 [aX (M.aR.en p0),aI p1] [rI r]:=by
 unfold oN at h
 exact sgo 12 [.tmp 4] Tryz.func57
instance:bC 57 (type_of% @c57):=⟨@c57⟩
theorem aRd (p0 p1 r) (h:zI p0 p1=some r):Sc 172 [aL M.fK.en p0,aI p1] [rI r]:=by
 unfold zI at h
 exact sgo 12 [.tmp 4] Tryz.func172
instance:bC 172 (type_of% @aRd):=⟨@aRd⟩
theorem c58 (p0 p1 r) (h:uL p0 p1=some r):Sc 58 [aX (M.Channel.en p0),aI p1] [rI r]:=by
 unfold uL at h
 exact sgo 12 [.tmp 4] Tryz.func58
instance:bC 58 (type_of% @c58):=⟨@c58⟩
theorem aRN (p0 p1 r) (h:sQ p0 p1=some r):Sc 269 [aL enS p0,aI p1] [rI r]:=by
 have i1:=inv fun m s=>∃v1:Int,∃v5:Int,(s.t 0=vL enS p0∧s.t 1=vI v1∧s.t 5=vI v5)∧sM p0 m v1 v5=some r
 have e1:=@sM.eq_2
 unfold sQ at h
 exact sgo 28 [.tmp 4] Tryz.func269
instance:bC 269 (type_of% @aRN):=⟨@aRN⟩
theorem aTB (p0 p1 r) (h:aAe p0 p1=some r):Sc 173 [aX (M.Site.en p0),aI p1] [rI r]:=by
 unfold aAe at h
 exact sgo 19 [.tmp 4] Tryz.func173
instance:bC 173 (type_of% @aTB):=⟨@aTB⟩
theorem c59 (p0 p1 r) (h:aAF p0 p1=some r):Sc 59 [aL M.Site.en p0,aI p1] [rI r]:=by
 have i1:=inv fun m s=>∃v1:Int,∃v5:Int,(s.t 0=vL M.Site.en p0∧s.t 1=vI v1∧s.t 5=vI v5)∧xZ p0 m v1 v5=some r
 have e1:=@xZ.eq_2
 unfold aAF at h
 exact sgo 27 [.tmp 4] Tryz.func59
instance:bC 59 (type_of% @c59):=⟨@c59⟩
theorem aUx (p0 p1 r) (h:qT p0 p1=some r):Sc 271 [aL M.aJ.en p0,aI p1] [rI r]:=by
 unfold qT at h
 exact sgo 12 [.tmp 4] Tryz.func271
instance:bC 271 (type_of% @aUx):=⟨@aUx⟩
theorem aRW (p0 p1 r) (h:wA p0 p1=some r):Sc 174 [aX (M.Server.en p0),aI p1] [rI r]:=by
 unfold wA at h
 exact sgo 24 [.tmp 4] Tryz.func174
instance:bC 174 (type_of% @aRW):=⟨@aRW⟩
theorem c60 (p0 p1 r) (h:uV p0 p1=some r):Sc 60 [aL M.Server.en p0,aI p1] [rI r]:=by
 have i1:=inv fun m s=>∃v1:Int,∃v5:Int,(s.t 0=vL M.Server.en p0∧s.t 1=vI v1∧s.t 5=vI v5)∧sE p0 m v1 v5=some r
 have e1:=@sE.eq_2
 unfold uV at h
 exact sgo 27 [.tmp 4] Tryz.func60
instance:bC 60 (type_of% @c60):=⟨@c60⟩
theorem c15 (p0 p1 r) (h:zD p0 p1=some r):Sc 15 [aX (M.World.en p0),aI p1] [rI r]:=by
 unfold zD at h
 exact sgo 42 [.tmp 4] Tryz.func15
instance:bC 15 (type_of% @c15):=⟨@c15⟩
end Go.Proofs.YtnhpbpnhmapeeaaGreat.gen
