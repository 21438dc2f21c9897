/-
  Helper text. No conditions.
-/
import Derived.Test.YtnhpbpnhmapeeaaGreatClosePageTi
namespace Go.Proofs.YtnhpbpnhmapeeaaGreat.gen
open Go Go.Sh
set_option linter.unusedVariables false
set_option linter.unusedSimpArgs false
set_option maxRecDepth 20000
set_option maxHeartbeats 4000000
theorem aRr (p0 p1 r) (h:kD p0 p1=some r):Sc 361 [aX (M.Registration.en p0),aX (M.Registration.en p1)] [rB r]:=by
 unfold kD at h
 exact sgo 25 [.tmp 4] Tryz.func361
instance:bD 361 (type_of% @aRr):=⟨@aRr⟩
theorem aSl (p0 p1 r) (h:uO p0 p1=some r):Sc 423 [aL enB p0,aL enB p1] [rB r]:=by
 have i1:=inv fun m s=>∃v5:Int,(s.t 0=vL enB p0∧s.t 1=vL enB p1∧s.t 5=vI v5)∧lX p0 p1 m v5=some r
 have e1:=@lX.eq_2
 unfold uO at h
 exact sgo 26 [.tmp 4] Tryz.func423
instance:bD 423 (type_of% @aSl):=⟨@aSl⟩
theorem aUn (p0 p1 r) (h:qR p0 p1=some r):Sc 493 [aX (M.Response.en p0),aX (M.Response.en p1)] [rB r]:=by
 unfold qR at h
 exact sgo 31 [.tmp 4] Tryz.func493
instance:bD 493 (type_of% @aUn):=⟨@aUn⟩
theorem aTb (p0 p1 r) (h:wD p0 p1=some r):Sc 489 [aX (M.Cached.en p0),aX (M.Cached.en p1)] [rB r]:=by
 unfold wD at h
 exact sgo 21 [.tmp 4] Tryz.func489
instance:bD 489 (type_of% @aTb):=⟨@aTb⟩
theorem aRt (p0 p1 r) (h:tA p0 p1=some r):Sc 480 [aL M.Cached.en p0,aL M.Cached.en p1] [rB r]:=by
 have i1:=inv fun m s=>∃v5:Int,(s.t 0=vL M.Cached.en p0∧s.t 1=vL M.Cached.en p1∧s.t 5=vI v5)∧jO p0 p1 m v5=some r
 have e1:=@jO.eq_2
 unfold tA at h
 exact sgo 27 [.tmp 4] Tryz.func480
instance:bD 480 (type_of% @aRt):=⟨@aRt⟩
theorem aUg (p0 p1 r) (h:zF p0 p1=some r):Sc 461 [aX (M.Cache.en p0),aX (M.Cache.en p1)] [rB r]:=by
 unfold zF at h
 exact sgo 16 [.tmp 4] Tryz.func461
instance:bD 461 (type_of% @aUg):=⟨@aUg⟩
theorem aTX (p0 p1 r) (h:wM p0 p1=some r):Sc 421 [aL M.Cache.en p0,aL M.Cache.en p1] [rB r]:=by
 have i1:=inv fun m s=>∃v5:Int,(s.t 0=vL M.Cache.en p0∧s.t 1=vL M.Cache.en p1∧s.t 5=vI v5)∧kN p0 p1 m v5=some r
 have e1:=@kN.eq_2
 unfold wM at h
 exact sgo 27 [.tmp 4] Tryz.func421
instance:bD 421 (type_of% @aTX):=⟨@aTX⟩
theorem aRm (p0 p1 r) (h:qG p0 p1=some r):Sc 362 [aX (M.aT.en p0),aX (M.aT.en p1)] [rB r]:=by
 unfold qG at h
 exact sgo 11 [.tmp 4] Tryz.func362
instance:bD 362 (type_of% @aRm):=⟨@aRm⟩
theorem aSC (p0 p1 r) (h:aAA p0 p1=some r):Sc 426 [aX (M.Key.en p0),aX (M.Key.en p1)] [rB r]:=by
 unfold aAA at h
 exact sgo 20 [.tmp 4] Tryz.func426
instance:bD 426 (type_of% @aSC):=⟨@aSC⟩
theorem aRN (p0 p1 r) (h:xU p0 p1=some r):Sc 490 [aX (M.Field.en p0),aX (M.Field.en p1)] [rB r]:=by
 unfold xU at h
 exact sgo 15 [.tmp 4] Tryz.func490
instance:bD 490 (type_of% @aRN):=⟨@aRN⟩
theorem aTz (p0 p1 r) (h:wQ p0 p1=some r):Sc 482 [aL M.Field.en p0,aL M.Field.en p1] [rB r]:=by
 have i1:=inv fun m s=>∃v5:Int,(s.t 0=vL M.Field.en p0∧s.t 1=vL M.Field.en p1∧s.t 5=vI v5)∧kJ p0 p1 m v5=some r
 have e1:=@kJ.eq_2
 unfold wQ at h
 exact sgo 27 [.tmp 4] Tryz.func482
instance:bD 482 (type_of% @aTz):=⟨@aTz⟩
theorem aSe (p0 p1 r) (h:wS p0 p1=some r):Sc 465 [aX (M.aU.en p0),aX (M.aU.en p1)] [rB r]:=by
 unfold wS at h
 exact sgo 11 [.tmp 4] Tryz.func465
instance:bD 465 (type_of% @aSe):=⟨@aSe⟩
theorem aUV (p0 p1 r) (h:aAL p0 p1=some r):Sc 425 [aX (M.Item.en p0),aX (M.Item.en p1)] [rB r]:=by
 unfold aAL at h
 exact sgo 17 [.tmp 4] Tryz.func425
instance:bD 425 (type_of% @aUV):=⟨@aUV⟩
theorem aUC (p0 p1 r) (h:zK p0 p1=some r):Sc 365 [aL M.Item.en p0,aL M.Item.en p1] [rB r]:=by
 have i1:=inv fun m s=>∃v5:Int,(s.t 0=vL M.Item.en p0∧s.t 1=vL M.Item.en p1∧s.t 5=vI v5)∧lU p0 p1 m v5=some r
 have e1:=@lU.eq_2
 unfold zK at h
 exact sgo 27 [.tmp 4] Tryz.func365
instance:bD 365 (type_of% @aUC):=⟨@aUC⟩
theorem aUl (p0 p1 r) (h:pH p0 p1=some r):Sc 285 [aX (M.aH.en p0),aX (M.aH.en p1)] [rB r]:=by
 unfold pH at h
 exact sgo 21 [.tmp 4] Tryz.func285
instance:bD 285 (type_of% @aUl):=⟨@aUl⟩
theorem aQX (p0 p1 r) (h:vG p0 p1=some r):Sc 462 [aL M.aH.en p0,aL M.aH.en p1] [rB r]:=by
 have i1:=inv fun m s=>∃v5:Int,(s.t 0=vL M.aH.en p0∧s.t 1=vL M.aH.en p1∧s.t 5=vI v5)∧kH p0 p1 m v5=some r
 have e1:=@kH.eq_2
 unfold vG at h
 exact sgo 27 [.tmp 4] Tryz.func462
instance:bD 462 (type_of% @aQX):=⟨@aQX⟩
theorem aSY (p0 p1 r) (h:qU p0 p1=some r):Sc 481 [aX (M.aA.en p0),aX (M.aA.en p1)] [rB r]:=by
 unfold qU at h
 exact sgo 15 [.tmp 4] Tryz.func481
instance:bD 481 (type_of% @aSY):=⟨@aSY⟩
theorem aUB (p0 p1 r) (h:oI p0 p1=some r):Sc 463 [aL M.aA.en p0,aL M.aA.en p1] [rB r]:=by
 have i1:=inv fun m s=>∃v5:Int,(s.t 0=vL M.aA.en p0∧s.t 1=vL M.aA.en p1∧s.t 5=vI v5)∧iD p0 p1 m v5=some r
 have e1:=@iD.eq_2
 unfold oI at h
 exact sgo 27 [.tmp 4] Tryz.func463
instance:bD 463 (type_of% @aUB):=⟨@aUB⟩
theorem aRP (p0 p1 r) (h:rC p0 p1=some r):Sc 422 [aX (M.Database.en p0),aX (M.Database.en p1)] [rB r]:=by
 unfold rC at h
 exact sgo 27 [.tmp 4] Tryz.func422
instance:bD 422 (type_of% @aRP):=⟨@aRP⟩
theorem aSa (p0 p1 r) (h:aAj p0 p1=some r):Sc 363 [aX (M.bE.en p0),aX (M.bE.en p1)] [rB r]:=by
 unfold aAj at h
 exact sgo 22 [.tmp 4] Tryz.func363
instance:bD 363 (type_of% @aSa):=⟨@aSa⟩
theorem aRX (p0 p1 r) (h:xX p0 p1=some r):Sc 367 [aX (M.aY.en p0),aX (M.aY.en p1)] [rB r]:=by
 unfold xX at h
 exact sgo 31 [.tmp 4] Tryz.func367
instance:bD 367 (type_of% @aRX):=⟨@aRX⟩
theorem aRu (p0 p1 r) (h:rE p0 p1=some r):Sc 287 [aL M.aY.en p0,aL M.aY.en p1] [rB r]:=by
 have i1:=inv fun m s=>∃v5:Int,(s.t 0=vL M.aY.en p0∧s.t 1=vL M.aY.en p1∧s.t 5=vI v5)∧kR p0 p1 m v5=some r
 have e1:=@kR.eq_2
 unfold rE at h
 exact sgo 27 [.tmp 4] Tryz.func287
instance:bD 287 (type_of% @aRu):=⟨@aRu⟩
theorem aUQ (p0 p1 r) (h:wV p0 p1=some r):Sc 464 [aX (M.aV.en p0),aX (M.aV.en p1)] [rB r]:=by
 unfold wV at h
 exact sgo 21 [.tmp 4] Tryz.func464
instance:bD 464 (type_of% @aUQ):=⟨@aUQ⟩
theorem aSt (p0 p1 r) (h:aAQ p0 p1=some r):Sc 424 [aX (M.Sync.en p0),aX (M.Sync.en p1)] [rB r]:=by
 unfold aAQ at h
 exact sgo 21 [.tmp 4] Tryz.func424
instance:bD 424 (type_of% @aSt):=⟨@aSt⟩
theorem aR3 (p0 p1 r) (h:tJ p0 p1=some r):Sc 364 [aX (M.aD.en p0),aX (M.aD.en p1)] [rB r]:=by
 unfold tJ at h
 exact sgo 22 [.tmp 4] Tryz.func364
instance:bD 364 (type_of% @aR3):=⟨@aR3⟩
theorem aSr (p0 p1 r) (h:vU p0 p1=some r):Sc 281 [aX (M.aF.en p0),aX (M.aF.en p1)] [rB r]:=by
 unfold vU at h
 exact sgo 49 [.tmp 4] Tryz.func281
instance:bD 281 (type_of% @aSr):=⟨@aSr⟩
theorem aUh (p0 p1 r) (h:tX p0 p1=some r):Sc 182 [aL M.aF.en p0,aL M.aF.en p1] [rB r]:=by
 have i1:=inv fun m s=>∃v5:Int,(s.t 0=vL M.aF.en p0∧s.t 1=vL M.aF.en p1∧s.t 5=vI v5)∧jH p0 p1 m v5=some r
 have e1:=@jH.eq_2
 unfold tX at h
 exact sgo 27 [.tmp 4] Tryz.func182
instance:bD 182 (type_of% @aUh):=⟨@aUh⟩
theorem c70 (p0 p1 r) (h:tW p0 p1=some r):Sc 70 [aX (M.aM.en p0),aX (M.aM.en p1)] [rB r]:=by
 unfold tW at h
 exact sgo 11 [.tmp 4] Tryz.func70
instance:bD 70 (type_of% @c70):=⟨@c70⟩
theorem aQy (p0 p1 r) (h:vE p0 p1=some r):Sc 223 [aX (M.aN.en p0),aX (M.aN.en p1)] [rB r]:=by
 unfold vE at h
 exact sgo 15 [.tmp 4] Tryz.func223
instance:bD 223 (type_of% @aQy):=⟨@aQy⟩
theorem aRE (p0 p1 r) (h:tZ p0 p1=some r):Sc 101 [aL M.aN.en p0,aL M.aN.en p1] [rB r]:=by
 have i1:=inv fun m s=>∃v5:Int,(s.t 0=vL M.aN.en p0∧s.t 1=vL M.aN.en p1∧s.t 5=vI v5)∧jR p0 p1 m v5=some r
 have e1:=@jR.eq_2
 unfold tZ at h
 exact sgo 27 [.tmp 4] Tryz.func101
instance:bD 101 (type_of% @aRE):=⟨@aRE⟩
theorem aTe (p0 p1 r) (h:xS p0 p1=some r):Sc 125 [aX (M.Instr.en p0),aX (M.Instr.en p1)] [rB r]:=by
 unfold xS at h
 exact sgo 25 [.tmp 4] Tryz.func125
instance:bD 125 (type_of% @aTe):=⟨@aTe⟩
theorem c32 (p0 p1 r) (h:wL p0 p1=some r):Sc 32 [aL M.Instr.en p0,aL M.Instr.en p1] [rB r]:=by
 have i1:=inv fun m s=>∃v5:Int,(s.t 0=vL M.Instr.en p0∧s.t 1=vL M.Instr.en p1∧s.t 5=vI v5)∧kL p0 p1 m v5=some r
 have e1:=@kL.eq_2
 unfold wL at h
 exact sgo 27 [.tmp 4] Tryz.func32
instance:bD 32 (type_of% @c32):=⟨@c32⟩
theorem aSK (p0 p1 r) (h:aAk p0 p1=some r):Sc 224 [aL enI p0,aL enI p1] [rB r]:=by
 have i1:=inv fun m s=>∃v5:Int,(s.t 0=vL enI p0∧s.t 1=vL enI p1∧s.t 5=vI v5)∧nI p0 p1 m v5=some r
 have e1:=@nI.eq_2
 unfold aAk at h
 exact sgo 26 [.tmp 4] Tryz.func224
instance:bD 224 (type_of% @aSK):=⟨@aSK⟩
theorem aSP (p0 p1 r) (h:sD p0 p1=some r):Sc 102 [aX (M.Machine.en p0),aX (M.Machine.en p1)] [rB r]:=by
 unfold sD at h
 exact sgo 37 [.tmp 4] Tryz.func102
instance:bD 102 (type_of% @aSP):=⟨@aSP⟩
theorem c25 (p0 p1 r) (h:aAZ p0 p1=some r):Sc 25 [aX (M.bG.en p0),aX (M.bG.en p1)] [rB r]:=by
 unfold aAZ at h
 exact sgo 37 [.tmp 4] Tryz.func25
instance:bD 25 (type_of% @c25):=⟨@c25⟩
theorem c71 (p0 p1 r) (h:yQ p0 p1=some r):Sc 71 [aL M.bG.en p0,aL M.bG.en p1] [rB r]:=by
 have i1:=inv fun m s=>∃v5:Int,(s.t 0=vL M.bG.en p0∧s.t 1=vL M.bG.en p1∧s.t 5=vI v5)∧mC p0 p1 m v5=some r
 have e1:=@mC.eq_2
 unfold yQ at h
 exact sgo 27 [.tmp 4] Tryz.func71
instance:bD 71 (type_of% @c71):=⟨@c71⟩
theorem aRY (p0 p1 r) (h:aAt p0 p1=some r):Sc 282 [aX (M.bF.en p0),aX (M.bF.en p1)] [rB r]:=by
 unfold aAt at h
 exact sgo 25 [.tmp 4] Tryz.func282
instance:bD 282 (type_of% @aRY):=⟨@aRY⟩
theorem aRy (p0 p1 r) (h:yB p0 p1=some r):Sc 183 [aL M.bF.en p0,aL M.bF.en p1] [rB r]:=by
 have i1:=inv fun m s=>∃v5:Int,(s.t 0=vL M.bF.en p0∧s.t 1=vL M.bF.en p1∧s.t 5=vI v5)∧mE p0 p1 m v5=some r
 have e1:=@mE.eq_2
 unfold yB at h
 exact sgo 27 [.tmp 4] Tryz.func183
instance:bD 183 (type_of% @aRy):=⟨@aRy⟩
theorem c72 (p0 p1 r) (h:oL p0 p1=some r):Sc 72 [aX (M.aE.en p0),aX (M.aE.en p1)] [rB r]:=by
 unfold oL at h
 exact sgo 11 [.tmp 4] Tryz.func72
instance:bD 72 (type_of% @c72):=⟨@c72⟩
theorem aQ7 (p0 p1 r) (h:aAx p0 p1=some r):Sc 283 [aX (M.bU.en p0),aX (M.bU.en p1)] [rB r]:=by
 unfold aAx at h
 exact sgo 20 [.tmp 4] Tryz.func283
instance:bD 283 (type_of% @aQ7):=⟨@aQ7⟩
theorem aSo (p0 p1 r) (h:zA p0 p1=some r):Sc 184 [aL M.bU.en p0,aL M.bU.en p1] [rB r]:=by
 have i1:=inv fun m s=>∃v5:Int,(s.t 0=vL M.bU.en p0∧s.t 1=vL M.bU.en p1∧s.t 5=vI v5)∧mJ p0 p1 m v5=some r
 have e1:=@mJ.eq_2
 unfold zA at h
 exact sgo 27 [.tmp 4] Tryz.func184
instance:bD 184 (type_of% @aSo):=⟨@aSo⟩
theorem c73 (p0 p1 r) (h:tD p0 p1=some r):Sc 73 [aX (M.Channel.en p0),aX (M.Channel.en p1)] [rB r]:=by
 unfold tD at h
 exact sgo 11 [.tmp 4] Tryz.func73
instance:bD 73 (type_of% @c73):=⟨@c73⟩
theorem aQz (p0 p1 r) (h:tU p0 p1=some r):Sc 284 [aL enS p0,aL enS p1] [rB r]:=by
 have i1:=inv fun m s=>∃v5:Int,(s.t 0=vL enS p0∧s.t 1=vL enS p1∧s.t 5=vI v5)∧jN p0 p1 m v5=some r
 have e1:=@jN.eq_2
 unfold tU at h
 exact sgo 26 [.tmp 4] Tryz.func284
instance:bD 284 (type_of% @aQz):=⟨@aQz⟩
theorem aS5 (p0 p1 r) (h:aAI p0 p1=some r):Sc 185 [aX (M.Site.en p0),aX (M.Site.en p1)] [rB r]:=by
 unfold aAI at h
 exact sgo 26 [.tmp 4] Tryz.func185
instance:bD 185 (type_of% @aS5):=⟨@aS5⟩
theorem c74 (p0 p1 r) (h:zS p0 p1=some r):Sc 74 [aL M.Site.en p0,aL M.Site.en p1] [rB r]:=by
 have i1:=inv fun m s=>∃v5:Int,(s.t 0=vL M.Site.en p0∧s.t 1=vL M.Site.en p1∧s.t 5=vI v5)∧lY p0 p1 m v5=some r
 have e1:=@lY.eq_2
 unfold zS at h
 exact sgo 27 [.tmp 4] Tryz.func74
instance:bD 74 (type_of% @c74):=⟨@c74⟩
theorem aTB (p0 p1 r) (h:sN p0 p1=some r):Sc 366 [aX (M.aJ.en p0),aX (M.aJ.en p1)] [rB r]:=by
 unfold sN at h
 exact sgo 15 [.tmp 4] Tryz.func366
instance:bD 366 (type_of% @aTB):=⟨@aTB⟩
theorem aQe (p0 p1 r) (h:pY p0 p1=some r):Sc 286 [aL M.aJ.en p0,aL M.aJ.en p1] [rB r]:=by
 have i1:=inv fun m s=>∃v5:Int,(s.t 0=vL M.aJ.en p0∧s.t 1=vL M.aJ.en p1∧s.t 5=vI v5)∧iW p0 p1 m v5=some r
 have e1:=@iW.eq_2
 unfold pY at h
 exact sgo 27 [.tmp 4] Tryz.func286
instance:bD 286 (type_of% @aQe):=⟨@aQe⟩
theorem aTm (p0 p1 r) (h:vV p0 p1=some r):Sc 186 [aX (M.Server.en p0),aX (M.Server.en p1)] [rB r]:=by
 unfold vV at h
 exact sgo 23 [.tmp 4] Tryz.func186
instance:bD 186 (type_of% @aTm):=⟨@aTm⟩
theorem c75 (p0 p1 r) (h:tQ p0 p1=some r):Sc 75 [aL M.Server.en p0,aL M.Server.en p1] [rB r]:=by
 have i1:=inv fun m s=>∃v5:Int,(s.t 0=vL M.Server.en p0∧s.t 1=vL M.Server.en p1∧s.t 5=vI v5)∧jL p0 p1 m v5=some r
 have e1:=@jL.eq_2
 unfold tQ at h
 exact sgo 27 [.tmp 4] Tryz.func75
instance:bD 75 (type_of% @c75):=⟨@c75⟩
theorem c18 (p0 p1 r) (h:lN p0 p1=some r):Sc 18 [aX (M.World.en p0),aX (M.World.en p1)] [rB r]:=by
 unfold lN at h
 exact sgo 61 [.tmp 4] Tryz.func18
instance:bD 18 (type_of% @c18):=⟨@c18⟩
end Go.Proofs.YtnhpbpnhmapeeaaGreat.gen
