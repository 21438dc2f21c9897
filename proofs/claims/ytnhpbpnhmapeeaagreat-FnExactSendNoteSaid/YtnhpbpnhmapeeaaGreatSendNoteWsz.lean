/-
  Helper text. No conditions.
-/
import Derived.Test.YtnhpbpnhmapeeaaGreatSendNoteTi
namespace Go.Proofs.YtnhpbpnhmapeeaaGreat.gen
open Go Go.Sh
set_option linter.unusedVariables false
set_option linter.unusedSimpArgs false
set_option maxRecDepth 20000
set_option maxHeartbeats 4000000
theorem aUh (p0 p1 r) (h:jW p0 p1=some r):Sc 348 [aX (M.Registration.en p0),aI p1] [rI r]:=by
 unfold jW at h
 exact sgo 13 [.tmp 4] Tryz.func348
instance:bG 348 (type_of% @aUh):=⟨@aUh⟩
theorem aRt (p0 p1 r) (h:uM p0 p1=some r):Sc 411 [aL enB p0,aI p1] [rI r]:=by
 unfold uM at h
 exact sgo 12 [.tmp 4] Tryz.func411
instance:bG 411 (type_of% @aRt):=⟨@aRt⟩
theorem aTe (p0 p1 r) (h:qS p0 p1=some r):Sc 491 [aX (M.Response.en p0),aI p1] [rI r]:=by
 unfold qS at h
 exact sgo 12 [.tmp 4] Tryz.func491
instance:bG 491 (type_of% @aTe):=⟨@aTe⟩
theorem aVD (p0 p1 r) (h:vX p0 p1=some r):Sc 485 [aX (M.Cached.en p0),aI p1] [rI r]:=by
 unfold vX at h
 exact sgo 26 [.tmp 4] Tryz.func485
instance:bG 485 (type_of% @aVD):=⟨@aVD⟩
theorem aR8 (p0 p1 r) (h:tB p0 p1=some r):Sc 474 [aL M.Cached.en p0,aI p1] [rI r]:=by
 have i1:=inv fun m s=>∃v1:Int,∃v5:Int,(s.t 0=vL M.Cached.en p0∧s.t 1=vI v1∧s.t 5=vI v5)∧rY p0 m v1 v5=some r
 have e1:=@rY.eq_2
 unfold tB at h
 exact sgo 27 [.tmp 4] Tryz.func474
instance:bG 474 (type_of% @aR8):=⟨@aR8⟩
theorem aSi (p0 p1 r) (h:zG p0 p1=some r):Sc 451 [aX (M.Cache.en p0),aI p1] [rI r]:=by
 unfold zG at h
 exact sgo 12 [.tmp 4] Tryz.func451
instance:bG 451 (type_of% @aSi):=⟨@aSi⟩
theorem aS4 (p0 p1 r) (h:xA p0 p1=some r):Sc 409 [aL M.Cache.en p0,aI p1] [rI r]:=by
 have i1:=inv fun m s=>∃v1:Int,∃v5:Int,(s.t 0=vL M.Cache.en p0∧s.t 1=vI v1∧s.t 5=vI v5)∧vE p0 m v1 v5=some r
 have e1:=@vE.eq_2
 unfold xA at h
 exact sgo 27 [.tmp 4] Tryz.func409
instance:bG 409 (type_of% @aS4):=⟨@aS4⟩
theorem aTw (p0 p1 r) (h:rN p0 p1=some r):Sc 349 [aX (M.aU.en p0),aI p1] [rI r]:=by
 unfold rN at h
 exact sgo 12 [.tmp 4] Tryz.func349
instance:bG 349 (type_of% @aTw):=⟨@aTw⟩
theorem aRN (p0 p1 r) (h:aAJ p0 p1=some r):Sc 414 [aX (M.Key.en p0),aI p1] [rI r]:=by
 unfold aAJ at h
 exact sgo 13 [.tmp 4] Tryz.func414
instance:bG 414 (type_of% @aRN):=⟨@aRN⟩
theorem aSG (p0 p1 r) (h:yX p0 p1=some r):Sc 486 [aX (M.Field.en p0),aI p1] [rI r]:=by
 unfold yX at h
 exact sgo 13 [.tmp 4] Tryz.func486
instance:bG 486 (type_of% @aSG):=⟨@aSG⟩
theorem aTZ (p0 p1 r) (h:vU p0 p1=some r):Sc 476 [aL M.Field.en p0,aI p1] [rI r]:=by
 have i1:=inv fun m s=>∃v1:Int,∃v5:Int,(s.t 0=vL M.Field.en p0∧s.t 1=vI v1∧s.t 5=vI v5)∧uY p0 m v1 v5=some r
 have e1:=@uY.eq_2
 unfold vU at h
 exact sgo 27 [.tmp 4] Tryz.func476
instance:bG 476 (type_of% @aTZ):=⟨@aTZ⟩
theorem aRw (p0 p1 r) (h:wZ p0 p1=some r):Sc 455 [aX (M.aH.en p0),aI p1] [rI r]:=by
 unfold wZ at h
 exact sgo 12 [.tmp 4] Tryz.func455
instance:bG 455 (type_of% @aRw):=⟨@aRw⟩
theorem aUc (p0 p1 r) (h:aAq p0 p1=some r):Sc 413 [aX (M.Item.en p0),aI p1] [rI r]:=by
 unfold aAq at h
 exact sgo 18 [.tmp 4] Tryz.func413
instance:bG 413 (type_of% @aUc):=⟨@aUc⟩
theorem aTH (p0 p1 r) (h:zP p0 p1=some r):Sc 352 [aL M.Item.en p0,aI p1] [rI r]:=by
 have i1:=inv fun m s=>∃v1:Int,∃v5:Int,(s.t 0=vL M.Item.en p0∧s.t 1=vI v1∧s.t 5=vI v5)∧xR p0 m v1 v5=some r
 have e1:=@xR.eq_2
 unfold zP at h
 exact sgo 27 [.tmp 4] Tryz.func352
instance:bG 352 (type_of% @aTH):=⟨@aTH⟩
theorem aSJ (p0 p1 r) (h:pJ p0 p1=some r):Sc 270 [aX (M.aE.en p0),aI p1] [rI r]:=by
 unfold pJ at h
 exact sgo 19 [.tmp 4] Tryz.func270
instance:bG 270 (type_of% @aSJ):=⟨@aSJ⟩
theorem aRf (p0 p1 r) (h:wN p0 p1=some r):Sc 452 [aL M.aE.en p0,aI p1] [rI r]:=by
 have i1:=inv fun m s=>∃v1:Int,∃v5:Int,(s.t 0=vL M.aE.en p0∧s.t 1=vI v1∧s.t 5=vI v5)∧vF p0 m v1 v5=some r
 have e1:=@vF.eq_2
 unfold wN at h
 exact sgo 27 [.tmp 4] Tryz.func452
instance:bG 452 (type_of% @aRf):=⟨@aRf⟩
theorem aRe (p0 p1 r) (h:qA p0 p1=some r):Sc 475 [aX (M.aD.en p0),aI p1] [rI r]:=by
 unfold qA at h
 exact sgo 20 [.tmp 4] Tryz.func475
instance:bG 475 (type_of% @aRe):=⟨@aRe⟩
theorem aRr (p0 p1 r) (h:oP p0 p1=some r):Sc 453 [aL M.aD.en p0,aI p1] [rI r]:=by
 have i1:=inv fun m s=>∃v1:Int,∃v5:Int,(s.t 0=vL M.aD.en p0∧s.t 1=vI v1∧s.t 5=vI v5)∧oI p0 m v1 v5=some r
 have e1:=@oI.eq_2
 unfold oP at h
 exact sgo 27 [.tmp 4] Tryz.func453
instance:bG 453 (type_of% @aRr):=⟨@aRr⟩
theorem aRZ (p0 p1 r) (h:rF p0 p1=some r):Sc 410 [aX (M.Database.en p0),aI p1] [rI r]:=by
 unfold rF at h
 exact sgo 25 [.tmp 4] Tryz.func410
instance:bG 410 (type_of% @aRZ):=⟨@aRZ⟩
theorem aU1 (p0 p1 r) (h:aAP p0 p1=some r):Sc 350 [aX (M.bD.en p0),aI p1] [rI r]:=by
 unfold aAP at h
 exact sgo 18 [.tmp 4] Tryz.func350
instance:bG 350 (type_of% @aU1):=⟨@aU1⟩
theorem aR2 (p0 p1 r) (h:zE p0 p1=some r):Sc 353 [aX (M.aV.en p0),aI p1] [rI r]:=by
 unfold zE at h
 exact sgo 19 [.tmp 4] Tryz.func353
instance:bG 353 (type_of% @aR2):=⟨@aR2⟩
theorem aTP (p0 p1 r) (h:qT p0 p1=some r):Sc 272 [aL M.aV.en p0,aI p1] [rI r]:=by
 have i1:=inv fun m s=>∃v1:Int,∃v5:Int,(s.t 0=vL M.aV.en p0∧s.t 1=vI v1∧s.t 5=vI v5)∧uZ p0 m v1 v5=some r
 have e1:=@uZ.eq_2
 unfold qT at h
 exact sgo 27 [.tmp 4] Tryz.func272
instance:bG 272 (type_of% @aTP):=⟨@aTP⟩
theorem aSj (p0 p1 r) (h:wG p0 p1=some r):Sc 454 [aX (M.aN.en p0),aI p1] [rI r]:=by
 unfold wG at h
 exact sgo 12 [.tmp 4] Tryz.func454
instance:bG 454 (type_of% @aSj):=⟨@aSj⟩
theorem aTO (p0 p1 r) (h:aA4 p0 p1=some r):Sc 412 [aX (M.Sync.en p0),aI p1] [rI r]:=by
 unfold aA4 at h
 exact sgo 12 [.tmp 4] Tryz.func412
instance:bG 412 (type_of% @aTO):=⟨@aTO⟩
theorem aRu (p0 p1 r) (h:uF p0 p1=some r):Sc 351 [aX (M.aC.en p0),aI p1] [rI r]:=by
 unfold uF at h
 exact sgo 18 [.tmp 4] Tryz.func351
instance:bG 351 (type_of% @aRu):=⟨@aRu⟩
theorem aUi (p0 p1 r) (h:xC p0 p1=some r):Sc 267 [aX (M.aA.en p0),aI p1] [rI r]:=by
 unfold xC at h
 exact sgo 44 [.tmp 4] Tryz.func267
instance:bG 267 (type_of% @aUi):=⟨@aUi⟩
theorem aSd (p0 p1 r) (h:tE p0 p1=some r):Sc 170 [aL M.aA.en p0,aI p1] [rI r]:=by
 have i1:=inv fun m s=>∃v1:Int,∃v5:Int,(s.t 0=vL M.aA.en p0∧s.t 1=vI v1∧s.t 5=vI v5)∧sK p0 m v1 v5=some r
 have e1:=@sK.eq_2
 unfold tE at h
 exact sgo 27 [.tmp 4] Tryz.func170
instance:bG 170 (type_of% @aSd):=⟨@aSd⟩
theorem c55 (p0 p1 r) (h:sU p0 p1=some r):Sc 55 [aX (M.aF.en p0),aI p1] [rI r]:=by
 unfold sU at h
 exact sgo 12 [.tmp 4] Tryz.func55
instance:bG 55 (type_of% @c55):=⟨@c55⟩
theorem aSn (p0 p1 r) (h:vY p0 p1=some r):Sc 205 [aX (M.aM.en p0),aI p1] [rI r]:=by
 unfold vY at h
 exact sgo 13 [.tmp 4] Tryz.func205
instance:bG 205 (type_of% @aSn):=⟨@aSn⟩
theorem c88 (p0 p1 r) (h:tF p0 p1=some r):Sc 88 [aL M.aM.en p0,aI p1] [rI r]:=by
 have i1:=inv fun m s=>∃v1:Int,∃v5:Int,(s.t 0=vL M.aM.en p0∧s.t 1=vI v1∧s.t 5=vI v5)∧sJ p0 m v1 v5=some r
 have e1:=@sJ.eq_2
 unfold tF at h
 exact sgo 27 [.tmp 4] Tryz.func88
instance:bG 88 (type_of% @c88):=⟨@c88⟩
theorem aT2 (p0 p1 r) (h:yD p0 p1=some r):Sc 115 [aX (M.Instr.en p0),aI p1] [rI r]:=by
 unfold yD at h
 exact sgo 13 [.tmp 4] Tryz.func115
instance:bG 115 (type_of% @aT2):=⟨@aT2⟩
theorem c29 (p0 p1 r) (h:wT p0 p1=some r):Sc 29 [aL M.Instr.en p0,aI p1] [rI r]:=by
 have i1:=inv fun m s=>∃v1:Int,∃v5:Int,(s.t 0=vL M.Instr.en p0∧s.t 1=vI v1∧s.t 5=vI v5)∧vJ p0 m v1 v5=some r
 have e1:=@vJ.eq_2
 unfold wT at h
 exact sgo 27 [.tmp 4] Tryz.func29
instance:bG 29 (type_of% @c29):=⟨@c29⟩
theorem aVC (p0 p1 r) (h:aAv p0 p1=some r):Sc 206 [aL enI p0,aI p1] [rI r]:=by
 unfold aAv at h
 exact sgo 12 [.tmp 4] Tryz.func206
instance:bG 206 (type_of% @aVC):=⟨@aVC⟩
theorem c89 (p0 p1 r) (h:uH p0 p1=some r):Sc 89 [aX (M.Machine.en p0),aI p1] [rI r]:=by
 unfold uH at h
 exact sgo 18 [.tmp 4] Tryz.func89
instance:bG 89 (type_of% @c89):=⟨@c89⟩
theorem c21 (p0 p1 r) (h:xS p0 p1=some r):Sc 21 [aX (M.bJ.en p0),aI p1] [rI r]:=by
 unfold xS at h
 exact sgo 32 [.tmp 4] Tryz.func21
instance:bG 21 (type_of% @c21):=⟨@c21⟩
theorem c56 (p0 p1 r) (h:yR p0 p1=some r):Sc 56 [aL M.bJ.en p0,aI p1] [rI r]:=by
 have i1:=inv fun m s=>∃v1:Int,∃v5:Int,(s.t 0=vL M.bJ.en p0∧s.t 1=vI v1∧s.t 5=vI v5)∧xT p0 m v1 v5=some r
 have e1:=@xT.eq_2
 unfold yR at h
 exact sgo 27 [.tmp 4] Tryz.func56
instance:bG 56 (type_of% @c56):=⟨@c56⟩
theorem aTg (p0 p1 r) (h:aA7 p0 p1=some r):Sc 268 [aX (M.cT.en p0),aI p1] [rI r]:=by
 unfold aA7 at h
 exact sgo 13 [.tmp 4] Tryz.func268
instance:bG 268 (type_of% @aTg):=⟨@aTg⟩
theorem aRm (p0 p1 r) (h:yM p0 p1=some r):Sc 171 [aL M.cT.en p0,aI p1] [rI r]:=by
 have i1:=inv fun m s=>∃v1:Int,∃v5:Int,(s.t 0=vL M.cT.en p0∧s.t 1=vI v1∧s.t 5=vI v5)∧xQ p0 m v1 v5=some r
 have e1:=@xQ.eq_2
 unfold yM at h
 exact sgo 27 [.tmp 4] Tryz.func171
instance:bG 171 (type_of% @aRm):=⟨@aRm⟩
theorem c57 (p0 p1 r) (h:oR p0 p1=some r):Sc 57 [aX (M.aW.en p0),aI p1] [rI r]:=by
 unfold oR at h
 exact sgo 12 [.tmp 4] Tryz.func57
instance:bG 57 (type_of% @c57):=⟨@c57⟩
theorem aRS (p0 p1 r) (h:yY p0 p1=some r):Sc 172 [aL M.eO.en p0,aI p1] [rI r]:=by
 unfold yY at h
 exact sgo 12 [.tmp 4] Tryz.func172
instance:bG 172 (type_of% @aRS):=⟨@aRS⟩
theorem c58 (p0 p1 r) (h:uD p0 p1=some r):Sc 58 [aX (M.Channel.en p0),aI p1] [rI r]:=by
 unfold uD at h
 exact sgo 12 [.tmp 4] Tryz.func58
instance:bG 58 (type_of% @c58):=⟨@c58⟩
theorem aRG (p0 p1 r) (h:sL p0 p1=some r):Sc 269 [aL enS p0,aI p1] [rI r]:=by
 have i1:=inv fun m s=>∃v1:Int,∃v5:Int,(s.t 0=vL enS p0∧s.t 1=vI v1∧s.t 5=vI v5)∧sI p0 m v1 v5=some r
 have e1:=@sI.eq_2
 unfold sL at h
 exact sgo 28 [.tmp 4] Tryz.func269
instance:bG 269 (type_of% @aRG):=⟨@aRG⟩
theorem aSq (p0 p1 r) (h:aAW p0 p1=some r):Sc 173 [aX (M.Site.en p0),aI p1] [rI r]:=by
 unfold aAW at h
 exact sgo 19 [.tmp 4] Tryz.func173
instance:bG 173 (type_of% @aSq):=⟨@aSq⟩
theorem c59 (p0 p1 r) (h:zS p0 p1=some r):Sc 59 [aL M.Site.en p0,aI p1] [rI r]:=by
 have i1:=inv fun m s=>∃v1:Int,∃v5:Int,(s.t 0=vL M.Site.en p0∧s.t 1=vI v1∧s.t 5=vI v5)∧xN p0 m v1 v5=some r
 have e1:=@xN.eq_2
 unfold zS at h
 exact sgo 27 [.tmp 4] Tryz.func59
instance:bG 59 (type_of% @c59):=⟨@c59⟩
theorem aUR (p0 p1 r) (h:qQ p0 p1=some r):Sc 271 [aL M.aO.en p0,aI p1] [rI r]:=by
 unfold qQ at h
 exact sgo 12 [.tmp 4] Tryz.func271
instance:bG 271 (type_of% @aUR):=⟨@aUR⟩
theorem aRM (p0 p1 r) (h:vQ p0 p1=some r):Sc 174 [aX (M.Server.en p0),aI p1] [rI r]:=by
 unfold vQ at h
 exact sgo 24 [.tmp 4] Tryz.func174
instance:bG 174 (type_of% @aRM):=⟨@aRM⟩
theorem c60 (p0 p1 r) (h:uK p0 p1=some r):Sc 60 [aL M.Server.en p0,aI p1] [rI r]:=by
 have i1:=inv fun m s=>∃v1:Int,∃v5:Int,(s.t 0=vL M.Server.en p0∧s.t 1=vI v1∧s.t 5=vI v5)∧sB p0 m v1 v5=some r
 have e1:=@sB.eq_2
 unfold uK at h
 exact sgo 27 [.tmp 4] Tryz.func60
instance:bG 60 (type_of% @c60):=⟨@c60⟩
theorem c15 (p0 p1 r) (h:yT p0 p1=some r):Sc 15 [aX (M.World.en p0),aI p1] [rI r]:=by
 unfold yT at h
 exact sgo 42 [.tmp 4] Tryz.func15
instance:bG 15 (type_of% @c15):=⟨@c15⟩
end Go.Proofs.YtnhpbpnhmapeeaaGreat.gen
