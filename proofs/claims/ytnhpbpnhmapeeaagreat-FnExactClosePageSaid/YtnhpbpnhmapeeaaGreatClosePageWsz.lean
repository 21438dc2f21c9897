/-
  Helper text. No conditions.
-/
import Derived.Test.YtnhpbpnhmapeeaaGreatClosePageTi
namespace Go.Proofs.YtnhpbpnhmapeeaaGreat.gen
open Go Go.Sh
set_option linter.unusedVariables false
set_option linter.unusedSimpArgs false
set_option maxRecDepth 20000
set_option maxHeartbeats 4000000
theorem aUH (p0 p1 r) (h:jX p0 p1=some r):Sc 348 [aX (M.Registration.en p0),aI p1] [rI r]:=by
 unfold jX at h
 exact sgo 13 [.tmp 4] Tryz.func348
instance:bD 348 (type_of% @aUH):=⟨@aUH⟩
theorem aRH (p0 p1 r) (h:uJ p0 p1=some r):Sc 411 [aL enB p0,aI p1] [rI r]:=by
 unfold uJ at h
 exact sgo 12 [.tmp 4] Tryz.func411
instance:bD 411 (type_of% @aRH):=⟨@aRH⟩
theorem aS6 (p0 p1 r) (h:qK p0 p1=some r):Sc 491 [aX (M.Response.en p0),aI p1] [rI r]:=by
 unfold qK at h
 exact sgo 12 [.tmp 4] Tryz.func491
instance:bD 491 (type_of% @aS6):=⟨@aS6⟩
theorem aUq (p0 p1 r) (h:vM p0 p1=some r):Sc 485 [aX (M.Cached.en p0),aI p1] [rI r]:=by
 unfold vM at h
 exact sgo 26 [.tmp 4] Tryz.func485
instance:bD 485 (type_of% @aUq):=⟨@aUq⟩
theorem aRW (p0 p1 r) (h:sQ p0 p1=some r):Sc 474 [aL M.Cached.en p0,aI p1] [rI r]:=by
 have i1:=inv fun m s=>∃v1:Int,∃v5:Int,(s.t 0=vL M.Cached.en p0∧s.t 1=vI v1∧s.t 5=vI v5)∧rL p0 m v1 v5=some r
 have e1:=@rL.eq_2
 unfold sQ at h
 exact sgo 27 [.tmp 4] Tryz.func474
instance:bD 474 (type_of% @aRW):=⟨@aRW⟩
theorem aR8 (p0 p1 r) (h:zB p0 p1=some r):Sc 451 [aX (M.Cache.en p0),aI p1] [rI r]:=by
 unfold zB at h
 exact sgo 12 [.tmp 4] Tryz.func451
instance:bD 451 (type_of% @aR8):=⟨@aR8⟩
theorem aSU (p0 p1 r) (h:wX p0 p1=some r):Sc 409 [aL M.Cache.en p0,aI p1] [rI r]:=by
 have i1:=inv fun m s=>∃v1:Int,∃v5:Int,(s.t 0=vL M.Cache.en p0∧s.t 1=vI v1∧s.t 5=vI v5)∧uW p0 m v1 v5=some r
 have e1:=@uW.eq_2
 unfold wX at h
 exact sgo 27 [.tmp 4] Tryz.func409
instance:bD 409 (type_of% @aSU):=⟨@aSU⟩
theorem aTP (p0 p1 r) (h:rF p0 p1=some r):Sc 349 [aX (M.aT.en p0),aI p1] [rI r]:=by
 unfold rF at h
 exact sgo 12 [.tmp 4] Tryz.func349
instance:bD 349 (type_of% @aTP):=⟨@aTP⟩
theorem aQg (p0 p1 r) (h:aAC p0 p1=some r):Sc 414 [aX (M.Key.en p0),aI p1] [rI r]:=by
 unfold aAC at h
 exact sgo 13 [.tmp 4] Tryz.func414
instance:bD 414 (type_of% @aQg):=⟨@aQg⟩
theorem aRf (p0 p1 r) (h:yS p0 p1=some r):Sc 486 [aX (M.Field.en p0),aI p1] [rI r]:=by
 unfold yS at h
 exact sgo 13 [.tmp 4] Tryz.func486
instance:bD 486 (type_of% @aRf):=⟨@aRf⟩
theorem aSz (p0 p1 r) (h:vH p0 p1=some r):Sc 476 [aL M.Field.en p0,aI p1] [rI r]:=by
 have i1:=inv fun m s=>∃v1:Int,∃v5:Int,(s.t 0=vL M.Field.en p0∧s.t 1=vI v1∧s.t 5=vI v5)∧uS p0 m v1 v5=some r
 have e1:=@uS.eq_2
 unfold vH at h
 exact sgo 27 [.tmp 4] Tryz.func476
instance:bD 476 (type_of% @aSz):=⟨@aSz⟩
theorem aRK (p0 p1 r) (h:wW p0 p1=some r):Sc 455 [aX (M.aU.en p0),aI p1] [rI r]:=by
 unfold wW at h
 exact sgo 12 [.tmp 4] Tryz.func455
instance:bD 455 (type_of% @aRK):=⟨@aRK⟩
theorem aT9 (p0 p1 r) (h:aAi p0 p1=some r):Sc 413 [aX (M.Item.en p0),aI p1] [rI r]:=by
 unfold aAi at h
 exact sgo 18 [.tmp 4] Tryz.func413
instance:bD 413 (type_of% @aT9):=⟨@aT9⟩
theorem aSh (p0 p1 r) (h:zL p0 p1=some r):Sc 352 [aL M.Item.en p0,aI p1] [rI r]:=by
 have i1:=inv fun m s=>∃v1:Int,∃v5:Int,(s.t 0=vL M.Item.en p0∧s.t 1=vI v1∧s.t 5=vI v5)∧xM p0 m v1 v5=some r
 have e1:=@xM.eq_2
 unfold zL at h
 exact sgo 27 [.tmp 4] Tryz.func352
instance:bD 352 (type_of% @aSh):=⟨@aSh⟩
theorem aRi (p0 p1 r) (h:pC p0 p1=some r):Sc 270 [aX (M.aH.en p0),aI p1] [rI r]:=by
 unfold pC at h
 exact sgo 19 [.tmp 4] Tryz.func270
instance:bD 270 (type_of% @aRi):=⟨@aRi⟩
theorem aQ3 (p0 p1 r) (h:wH p0 p1=some r):Sc 452 [aL M.aH.en p0,aI p1] [rI r]:=by
 have i1:=inv fun m s=>∃v1:Int,∃v5:Int,(s.t 0=vL M.aH.en p0∧s.t 1=vI v1∧s.t 5=vI v5)∧uX p0 m v1 v5=some r
 have e1:=@uX.eq_2
 unfold wH at h
 exact sgo 27 [.tmp 4] Tryz.func452
instance:bD 452 (type_of% @aQ3):=⟨@aQ3⟩
theorem aQ2 (p0 p1 r) (h:pS p0 p1=some r):Sc 475 [aX (M.aA.en p0),aI p1] [rI r]:=by
 unfold pS at h
 exact sgo 20 [.tmp 4] Tryz.func475
instance:bD 475 (type_of% @aQ2):=⟨@aQ2⟩
theorem aRF (p0 p1 r) (h:oE p0 p1=some r):Sc 453 [aL M.aA.en p0,aI p1] [rI r]:=by
 have i1:=inv fun m s=>∃v1:Int,∃v5:Int,(s.t 0=vL M.aA.en p0∧s.t 1=vI v1∧s.t 5=vI v5)∧nT p0 m v1 v5=some r
 have e1:=@nT.eq_2
 unfold oE at h
 exact sgo 27 [.tmp 4] Tryz.func453
instance:bD 453 (type_of% @aRF):=⟨@aRF⟩
theorem aQv (p0 p1 r) (h:qY p0 p1=some r):Sc 410 [aX (M.Database.en p0),aI p1] [rI r]:=by
 unfold qY at h
 exact sgo 25 [.tmp 4] Tryz.func410
instance:bD 410 (type_of% @aQv):=⟨@aQv⟩
theorem aUe (p0 p1 r) (h:aAF p0 p1=some r):Sc 350 [aX (M.bE.en p0),aI p1] [rI r]:=by
 unfold aAF at h
 exact sgo 18 [.tmp 4] Tryz.func350
instance:bD 350 (type_of% @aUe):=⟨@aUe⟩
theorem aRR (p0 p1 r) (h:yZ p0 p1=some r):Sc 353 [aX (M.aY.en p0),aI p1] [rI r]:=by
 unfold yZ at h
 exact sgo 19 [.tmp 4] Tryz.func353
instance:bD 353 (type_of% @aRR):=⟨@aRR⟩
theorem aSq (p0 p1 r) (h:qL p0 p1=some r):Sc 272 [aL M.aY.en p0,aI p1] [rI r]:=by
 have i1:=inv fun m s=>∃v1:Int,∃v5:Int,(s.t 0=vL M.aY.en p0∧s.t 1=vI v1∧s.t 5=vI v5)∧uT p0 m v1 v5=some r
 have e1:=@uT.eq_2
 unfold qL at h
 exact sgo 27 [.tmp 4] Tryz.func272
instance:bD 272 (type_of% @aSq):=⟨@aSq⟩
theorem aR9 (p0 p1 r) (h:vZ p0 p1=some r):Sc 454 [aX (M.aV.en p0),aI p1] [rI r]:=by
 unfold vZ at h
 exact sgo 12 [.tmp 4] Tryz.func454
instance:bD 454 (type_of% @aR9):=⟨@aR9⟩
theorem aSp (p0 p1 r) (h:aAy p0 p1=some r):Sc 412 [aX (M.Sync.en p0),aI p1] [rI r]:=by
 unfold aAy at h
 exact sgo 12 [.tmp 4] Tryz.func412
instance:bD 412 (type_of% @aSp):=⟨@aSp⟩
theorem aRI (p0 p1 r) (h:uA p0 p1=some r):Sc 351 [aX (M.aD.en p0),aI p1] [rI r]:=by
 unfold uA at h
 exact sgo 18 [.tmp 4] Tryz.func351
instance:bD 351 (type_of% @aRI):=⟨@aRI⟩
theorem aUJ (p0 p1 r) (h:wZ p0 p1=some r):Sc 267 [aX (M.aF.en p0),aI p1] [rI r]:=by
 unfold wZ at h
 exact sgo 44 [.tmp 4] Tryz.func267
instance:bD 267 (type_of% @aUJ):=⟨@aUJ⟩
theorem aR1 (p0 p1 r) (h:sV p0 p1=some r):Sc 170 [aL M.aF.en p0,aI p1] [rI r]:=by
 have i1:=inv fun m s=>∃v1:Int,∃v5:Int,(s.t 0=vL M.aF.en p0∧s.t 1=vI v1∧s.t 5=vI v5)∧rZ p0 m v1 v5=some r
 have e1:=@rZ.eq_2
 unfold sV at h
 exact sgo 27 [.tmp 4] Tryz.func170
instance:bD 170 (type_of% @aR1):=⟨@aR1⟩
theorem c55 (p0 p1 r) (h:sI p0 p1=some r):Sc 55 [aX (M.aM.en p0),aI p1] [rI r]:=by
 unfold sI at h
 exact sgo 12 [.tmp 4] Tryz.func55
instance:bD 55 (type_of% @c55):=⟨@c55⟩
theorem aSE (p0 p1 r) (h:vN p0 p1=some r):Sc 205 [aX (M.aN.en p0),aI p1] [rI r]:=by
 unfold vN at h
 exact sgo 13 [.tmp 4] Tryz.func205
instance:bD 205 (type_of% @aSE):=⟨@aSE⟩
theorem c88 (p0 p1 r) (h:sW p0 p1=some r):Sc 88 [aL M.aN.en p0,aI p1] [rI r]:=by
 have i1:=inv fun m s=>∃v1:Int,∃v5:Int,(s.t 0=vL M.aN.en p0∧s.t 1=vI v1∧s.t 5=vI v5)∧rY p0 m v1 v5=some r
 have e1:=@rY.eq_2
 unfold sW at h
 exact sgo 27 [.tmp 4] Tryz.func88
instance:bD 88 (type_of% @c88):=⟨@c88⟩
theorem aTW (p0 p1 r) (h:xT p0 p1=some r):Sc 115 [aX (M.Instr.en p0),aI p1] [rI r]:=by
 unfold xT at h
 exact sgo 13 [.tmp 4] Tryz.func115
instance:bD 115 (type_of% @aTW):=⟨@aTW⟩
theorem c29 (p0 p1 r) (h:wO p0 p1=some r):Sc 29 [aL M.Instr.en p0,aI p1] [rI r]:=by
 have i1:=inv fun m s=>∃v1:Int,∃v5:Int,(s.t 0=vL M.Instr.en p0∧s.t 1=vI v1∧s.t 5=vI v5)∧vA p0 m v1 v5=some r
 have e1:=@vA.eq_2
 unfold wO at h
 exact sgo 27 [.tmp 4] Tryz.func29
instance:bD 29 (type_of% @c29):=⟨@c29⟩
theorem aUp (p0 p1 r) (h:aAq p0 p1=some r):Sc 206 [aL enI p0,aI p1] [rI r]:=by
 unfold aAq at h
 exact sgo 12 [.tmp 4] Tryz.func206
instance:bD 206 (type_of% @aUp):=⟨@aUp⟩
theorem c89 (p0 p1 r) (h:uC p0 p1=some r):Sc 89 [aX (M.Machine.en p0),aI p1] [rI r]:=by
 unfold uC at h
 exact sgo 18 [.tmp 4] Tryz.func89
instance:bD 89 (type_of% @c89):=⟨@c89⟩
theorem c21 (p0 p1 r) (h:aAm p0 p1=some r):Sc 21 [aX (M.bG.en p0),aI p1] [rI r]:=by
 unfold aAm at h
 exact sgo 32 [.tmp 4] Tryz.func21
instance:bD 21 (type_of% @c21):=⟨@c21⟩
theorem c56 (p0 p1 r) (h:yL p0 p1=some r):Sc 56 [aL M.bG.en p0,aI p1] [rI r]:=by
 have i1:=inv fun m s=>∃v1:Int,∃v5:Int,(s.t 0=vL M.bG.en p0∧s.t 1=vI v1∧s.t 5=vI v5)∧xN p0 m v1 v5=some r
 have e1:=@xN.eq_2
 unfold yL at h
 exact sgo 27 [.tmp 4] Tryz.func56
instance:bD 56 (type_of% @c56):=⟨@c56⟩
theorem aS8 (p0 p1 r) (h:aA1 p0 p1=some r):Sc 268 [aX (M.bF.en p0),aI p1] [rI r]:=by
 unfold aA1 at h
 exact sgo 13 [.tmp 4] Tryz.func268
instance:bD 268 (type_of% @aS8):=⟨@aS8⟩
theorem aQ9 (p0 p1 r) (h:yF p0 p1=some r):Sc 171 [aL M.bF.en p0,aI p1] [rI r]:=by
 have i1:=inv fun m s=>∃v1:Int,∃v5:Int,(s.t 0=vL M.bF.en p0∧s.t 1=vI v1∧s.t 5=vI v5)∧xL p0 m v1 v5=some r
 have e1:=@xL.eq_2
 unfold yF at h
 exact sgo 27 [.tmp 4] Tryz.func171
instance:bD 171 (type_of% @aQ9):=⟨@aQ9⟩
theorem c57 (p0 p1 r) (h:oG p0 p1=some r):Sc 57 [aX (M.aE.en p0),aI p1] [rI r]:=by
 unfold oG at h
 exact sgo 12 [.tmp 4] Tryz.func57
instance:bD 57 (type_of% @c57):=⟨@c57⟩
theorem aQm (p0 p1 r) (h:yT p0 p1=some r):Sc 172 [aL M.bU.en p0,aI p1] [rI r]:=by
 unfold yT at h
 exact sgo 12 [.tmp 4] Tryz.func172
instance:bD 172 (type_of% @aQm):=⟨@aQm⟩
theorem c58 (p0 p1 r) (h:tY p0 p1=some r):Sc 58 [aX (M.Channel.en p0),aI p1] [rI r]:=by
 unfold tY at h
 exact sgo 12 [.tmp 4] Tryz.func58
instance:bD 58 (type_of% @c58):=⟨@c58⟩
theorem aQY (p0 p1 r) (h:sB p0 p1=some r):Sc 269 [aL enS p0,aI p1] [rI r]:=by
 have i1:=inv fun m s=>∃v1:Int,∃v5:Int,(s.t 0=vL enS p0∧s.t 1=vI v1∧s.t 5=vI v5)∧rX p0 m v1 v5=some r
 have e1:=@rX.eq_2
 unfold sB at h
 exact sgo 28 [.tmp 4] Tryz.func269
instance:bD 269 (type_of% @aQY):=⟨@aQY⟩
theorem aSH (p0 p1 r) (h:aAO p0 p1=some r):Sc 173 [aX (M.Site.en p0),aI p1] [rI r]:=by
 unfold aAO at h
 exact sgo 19 [.tmp 4] Tryz.func173
instance:bD 173 (type_of% @aSH):=⟨@aSH⟩
theorem c59 (p0 p1 r) (h:zP p0 p1=some r):Sc 59 [aL M.Site.en p0,aI p1] [rI r]:=by
 have i1:=inv fun m s=>∃v1:Int,∃v5:Int,(s.t 0=vL M.Site.en p0∧s.t 1=vI v1∧s.t 5=vI v5)∧xK p0 m v1 v5=some r
 have e1:=@xK.eq_2
 unfold zP at h
 exact sgo 27 [.tmp 4] Tryz.func59
instance:bD 59 (type_of% @c59):=⟨@c59⟩
theorem aTw (p0 p1 r) (h:qJ p0 p1=some r):Sc 271 [aL M.aJ.en p0,aI p1] [rI r]:=by
 unfold qJ at h
 exact sgo 12 [.tmp 4] Tryz.func271
instance:bD 271 (type_of% @aTw):=⟨@aTw⟩
theorem aQf (p0 p1 r) (h:vF p0 p1=some r):Sc 174 [aX (M.Server.en p0),aI p1] [rI r]:=by
 unfold vF at h
 exact sgo 24 [.tmp 4] Tryz.func174
instance:bD 174 (type_of% @aQf):=⟨@aQf⟩
theorem c60 (p0 p1 r) (h:uH p0 p1=some r):Sc 60 [aL M.Server.en p0,aI p1] [rI r]:=by
 have i1:=inv fun m s=>∃v1:Int,∃v5:Int,(s.t 0=vL M.Server.en p0∧s.t 1=vI v1∧s.t 5=vI v5)∧rO p0 m v1 v5=some r
 have e1:=@rO.eq_2
 unfold uH at h
 exact sgo 27 [.tmp 4] Tryz.func60
instance:bD 60 (type_of% @c60):=⟨@c60⟩
theorem c15 (p0 p1 r) (h:yN p0 p1=some r):Sc 15 [aX (M.World.en p0),aI p1] [rI r]:=by
 unfold yN at h
 exact sgo 42 [.tmp 4] Tryz.func15
instance:bD 15 (type_of% @c15):=⟨@c15⟩
end Go.Proofs.YtnhpbpnhmapeeaaGreat.gen
