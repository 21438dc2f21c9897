/-
  Helper text. No conditions.
-/
import Derived.Test.YtnhpbpnhmapeeaaGreatSendNoteTi
namespace Go.Proofs.YtnhpbpnhmapeeaaGreat.gen
open Go Go.Sh
set_option linter.unusedVariables false
set_option linter.unusedSimpArgs false
set_option maxRecDepth 20000
set_option maxHeartbeats 4000000
theorem aSS (p0 p1 r) (h:kF p0 p1=some r):Sc 361 [aX (M.Registration.en p0),aX (M.Registration.en p1)] [rB r]:=by
 unfold kF at h
 exact sgo 25 [.tmp 4] Tryz.func361
instance:bG 361 (type_of% @aSS):=⟨@aSS⟩
theorem aTL (p0 p1 r) (h:uS p0 p1=some r):Sc 423 [aL enB p0,aL enB p1] [rB r]:=by
 have i1:=inv fun m s=>∃v5:Int,(s.t 0=vL enB p0∧s.t 1=vL enB p1∧s.t 5=vI v5)∧mD p0 p1 m v5=some r
 have e1:=@mD.eq_2
 unfold uS at h
 exact sgo 26 [.tmp 4] Tryz.func423
instance:bG 423 (type_of% @aTL):=⟨@aTL⟩
theorem aVA (p0 p1 r) (h:qZ p0 p1=some r):Sc 493 [aX (M.Response.en p0),aX (M.Response.en p1)] [rB r]:=by
 unfold qZ at h
 exact sgo 31 [.tmp 4] Tryz.func493
instance:bG 493 (type_of% @aVA):=⟨@aVA⟩
theorem aT7 (p0 p1 r) (h:wL p0 p1=some r):Sc 489 [aX (M.Cached.en p0),aX (M.Cached.en p1)] [rB r]:=by
 unfold wL at h
 exact sgo 21 [.tmp 4] Tryz.func489
instance:bG 489 (type_of% @aT7):=⟨@aT7⟩
theorem aSU (p0 p1 r) (h:tK p0 p1=some r):Sc 480 [aL M.Cached.en p0,aL M.Cached.en p1] [rB r]:=by
 have i1:=inv fun m s=>∃v5:Int,(s.t 0=vL M.Cached.en p0∧s.t 1=vL M.Cached.en p1∧s.t 5=vI v5)∧jL p0 p1 m v5=some r
 have e1:=@jL.eq_2
 unfold tK at h
 exact sgo 27 [.tmp 4] Tryz.func480
instance:bG 480 (type_of% @aSU):=⟨@aSU⟩
theorem aU3 (p0 p1 r) (h:zM p0 p1=some r):Sc 461 [aX (M.Cache.en p0),aX (M.Cache.en p1)] [rB r]:=by
 unfold zM at h
 exact sgo 16 [.tmp 4] Tryz.func461
instance:bG 461 (type_of% @aU3):=⟨@aU3⟩
theorem aT3 (p0 p1 r) (h:wR p0 p1=some r):Sc 421 [aL M.Cache.en p0,aL M.Cache.en p1] [rB r]:=by
 have i1:=inv fun m s=>∃v5:Int,(s.t 0=vL M.Cache.en p0∧s.t 1=vL M.Cache.en p1∧s.t 5=vI v5)∧kO p0 p1 m v5=some r
 have e1:=@kO.eq_2
 unfold wR at h
 exact sgo 27 [.tmp 4] Tryz.func421
instance:bG 421 (type_of% @aT3):=⟨@aT3⟩
theorem aSN (p0 p1 r) (h:qN p0 p1=some r):Sc 362 [aX (M.aU.en p0),aX (M.aU.en p1)] [rB r]:=by
 unfold qN at h
 exact sgo 11 [.tmp 4] Tryz.func362
instance:bG 362 (type_of% @aSN):=⟨@aSN⟩
theorem aSl (p0 p1 r) (h:aAH p0 p1=some r):Sc 426 [aX (M.Key.en p0),aX (M.Key.en p1)] [rB r]:=by
 unfold aAH at h
 exact sgo 20 [.tmp 4] Tryz.func426
instance:bG 426 (type_of% @aSl):=⟨@aSl⟩
theorem aRz (p0 p1 r) (h:yE p0 p1=some r):Sc 490 [aX (M.Field.en p0),aX (M.Field.en p1)] [rB r]:=by
 unfold yE at h
 exact sgo 15 [.tmp 4] Tryz.func490
instance:bG 490 (type_of% @aRz):=⟨@aRz⟩
theorem aUU (p0 p1 r) (h:wV p0 p1=some r):Sc 482 [aL M.Field.en p0,aL M.Field.en p1] [rB r]:=by
 have i1:=inv fun m s=>∃v5:Int,(s.t 0=vL M.Field.en p0∧s.t 1=vL M.Field.en p1∧s.t 5=vI v5)∧kL p0 p1 m v5=some r
 have e1:=@kL.eq_2
 unfold wV at h
 exact sgo 27 [.tmp 4] Tryz.func482
instance:bG 482 (type_of% @aUU):=⟨@aUU⟩
theorem aTE (p0 p1 r) (h:wW p0 p1=some r):Sc 465 [aX (M.aH.en p0),aX (M.aH.en p1)] [rB r]:=by
 unfold wW at h
 exact sgo 11 [.tmp 4] Tryz.func465
instance:bG 465 (type_of% @aTE):=⟨@aTE⟩
theorem aUs (p0 p1 r) (h:aAU p0 p1=some r):Sc 425 [aX (M.Item.en p0),aX (M.Item.en p1)] [rB r]:=by
 unfold aAU at h
 exact sgo 17 [.tmp 4] Tryz.func425
instance:bG 425 (type_of% @aUs):=⟨@aUs⟩
theorem aUf (p0 p1 r) (h:zO p0 p1=some r):Sc 365 [aL M.Item.en p0,aL M.Item.en p1] [rB r]:=by
 have i1:=inv fun m s=>∃v5:Int,(s.t 0=vL M.Item.en p0∧s.t 1=vL M.Item.en p1∧s.t 5=vI v5)∧mA p0 p1 m v5=some r
 have e1:=@mA.eq_2
 unfold zO at h
 exact sgo 27 [.tmp 4] Tryz.func365
instance:bG 365 (type_of% @aUf):=⟨@aUf⟩
theorem aU9 (p0 p1 r) (h:pM p0 p1=some r):Sc 285 [aX (M.aE.en p0),aX (M.aE.en p1)] [rB r]:=by
 unfold pM at h
 exact sgo 21 [.tmp 4] Tryz.func285
instance:bG 285 (type_of% @aU9):=⟨@aU9⟩
theorem aRF (p0 p1 r) (h:vT p0 p1=some r):Sc 462 [aL M.aE.en p0,aL M.aE.en p1] [rB r]:=by
 have i1:=inv fun m s=>∃v5:Int,(s.t 0=vL M.aE.en p0∧s.t 1=vL M.aE.en p1∧s.t 5=vI v5)∧kK p0 p1 m v5=some r
 have e1:=@kK.eq_2
 unfold vT at h
 exact sgo 27 [.tmp 4] Tryz.func462
instance:bG 462 (type_of% @aRF):=⟨@aRF⟩
theorem aS8 (p0 p1 r) (h:rD p0 p1=some r):Sc 481 [aX (M.aD.en p0),aX (M.aD.en p1)] [rB r]:=by
 unfold rD at h
 exact sgo 15 [.tmp 4] Tryz.func481
instance:bG 481 (type_of% @aS8):=⟨@aS8⟩
theorem aUe (p0 p1 r) (h:oT p0 p1=some r):Sc 463 [aL M.aD.en p0,aL M.aD.en p1] [rB r]:=by
 have i1:=inv fun m s=>∃v5:Int,(s.t 0=vL M.aD.en p0∧s.t 1=vL M.aD.en p1∧s.t 5=vI v5)∧iA p0 p1 m v5=some r
 have e1:=@iA.eq_2
 unfold oT at h
 exact sgo 27 [.tmp 4] Tryz.func463
instance:bG 463 (type_of% @aUe):=⟨@aUe⟩
theorem aR0 (p0 p1 r) (h:rK p0 p1=some r):Sc 422 [aX (M.Database.en p0),aX (M.Database.en p1)] [rB r]:=by
 unfold rK at h
 exact sgo 27 [.tmp 4] Tryz.func422
instance:bG 422 (type_of% @aR0):=⟨@aR0⟩
theorem aTA (p0 p1 r) (h:aAr p0 p1=some r):Sc 363 [aX (M.bD.en p0),aX (M.bD.en p1)] [rB r]:=by
 unfold aAr at h
 exact sgo 22 [.tmp 4] Tryz.func363
instance:bG 363 (type_of% @aTA):=⟨@aTA⟩
theorem aR9 (p0 p1 r) (h:yG p0 p1=some r):Sc 367 [aX (M.aV.en p0),aX (M.aV.en p1)] [rB r]:=by
 unfold yG at h
 exact sgo 31 [.tmp 4] Tryz.func367
instance:bG 367 (type_of% @aR9):=⟨@aR9⟩
theorem aSV (p0 p1 r) (h:rM p0 p1=some r):Sc 287 [aL M.aV.en p0,aL M.aV.en p1] [rB r]:=by
 have i1:=inv fun m s=>∃v5:Int,(s.t 0=vL M.aV.en p0∧s.t 1=vL M.aV.en p1∧s.t 5=vI v5)∧kR p0 p1 m v5=some r
 have e1:=@kR.eq_2
 unfold rM at h
 exact sgo 27 [.tmp 4] Tryz.func287
instance:bG 287 (type_of% @aSV):=⟨@aSV⟩
theorem aUn (p0 p1 r) (h:wY p0 p1=some r):Sc 464 [aX (M.aN.en p0),aX (M.aN.en p1)] [rB r]:=by
 unfold wY at h
 exact sgo 21 [.tmp 4] Tryz.func464
instance:bG 464 (type_of% @aUn):=⟨@aUn⟩
theorem aTS (p0 p1 r) (h:aAa p0 p1=some r):Sc 424 [aX (M.Sync.en p0),aX (M.Sync.en p1)] [rB r]:=by
 unfold aAa at h
 exact sgo 21 [.tmp 4] Tryz.func424
instance:bG 424 (type_of% @aTS):=⟨@aTS⟩
theorem aSe (p0 p1 r) (h:tR p0 p1=some r):Sc 364 [aX (M.aC.en p0),aX (M.aC.en p1)] [rB r]:=by
 unfold tR at h
 exact sgo 22 [.tmp 4] Tryz.func364
instance:bG 364 (type_of% @aSe):=⟨@aSe⟩
theorem aTQ (p0 p1 r) (h:wC p0 p1=some r):Sc 281 [aX (M.aA.en p0),aX (M.aA.en p1)] [rB r]:=by
 unfold wC at h
 exact sgo 49 [.tmp 4] Tryz.func281
instance:bG 281 (type_of% @aTQ):=⟨@aTQ⟩
theorem aU4 (p0 p1 r) (h:uC p0 p1=some r):Sc 182 [aL M.aA.en p0,aL M.aA.en p1] [rB r]:=by
 have i1:=inv fun m s=>∃v5:Int,(s.t 0=vL M.aA.en p0∧s.t 1=vL M.aA.en p1∧s.t 5=vI v5)∧jE p0 p1 m v5=some r
 have e1:=@jE.eq_2
 unfold uC at h
 exact sgo 27 [.tmp 4] Tryz.func182
instance:bG 182 (type_of% @aU4):=⟨@aU4⟩
theorem c70 (p0 p1 r) (h:uB p0 p1=some r):Sc 70 [aX (M.aF.en p0),aX (M.aF.en p1)] [rB r]:=by
 unfold uB at h
 exact sgo 11 [.tmp 4] Tryz.func70
instance:bG 70 (type_of% @c70):=⟨@c70⟩
theorem aRb (p0 p1 r) (h:vN p0 p1=some r):Sc 223 [aX (M.aM.en p0),aX (M.aM.en p1)] [rB r]:=by
 unfold vN at h
 exact sgo 15 [.tmp 4] Tryz.func223
instance:bG 223 (type_of% @aRb):=⟨@aRb⟩
theorem aRq (p0 p1 r) (h:uE p0 p1=some r):Sc 101 [aL M.aM.en p0,aL M.aM.en p1] [rB r]:=by
 have i1:=inv fun m s=>∃v5:Int,(s.t 0=vL M.aM.en p0∧s.t 1=vL M.aM.en p1∧s.t 5=vI v5)∧jP p0 p1 m v5=some r
 have e1:=@jP.eq_2
 unfold uE at h
 exact sgo 27 [.tmp 4] Tryz.func101
instance:bG 101 (type_of% @aRq):=⟨@aRq⟩
theorem aT9 (p0 p1 r) (h:yC p0 p1=some r):Sc 125 [aX (M.Instr.en p0),aX (M.Instr.en p1)] [rB r]:=by
 unfold yC at h
 exact sgo 25 [.tmp 4] Tryz.func125
instance:bG 125 (type_of% @aT9):=⟨@aT9⟩
theorem c32 (p0 p1 r) (h:wQ p0 p1=some r):Sc 32 [aL M.Instr.en p0,aL M.Instr.en p1] [rB r]:=by
 have i1:=inv fun m s=>∃v5:Int,(s.t 0=vL M.Instr.en p0∧s.t 1=vL M.Instr.en p1∧s.t 5=vI v5)∧kM p0 p1 m v5=some r
 have e1:=@kM.eq_2
 unfold wQ at h
 exact sgo 27 [.tmp 4] Tryz.func32
instance:bG 32 (type_of% @c32):=⟨@c32⟩
theorem aSu (p0 p1 r) (h:aAs p0 p1=some r):Sc 224 [aL enI p0,aL enI p1] [rB r]:=by
 have i1:=inv fun m s=>∃v5:Int,(s.t 0=vL enI p0∧s.t 1=vL enI p1∧s.t 5=vI v5)∧nX p0 p1 m v5=some r
 have e1:=@nX.eq_2
 unfold aAs at h
 exact sgo 26 [.tmp 4] Tryz.func224
instance:bG 224 (type_of% @aSu):=⟨@aSu⟩
theorem aSz (p0 p1 r) (h:sN p0 p1=some r):Sc 102 [aX (M.Machine.en p0),aX (M.Machine.en p1)] [rB r]:=by
 unfold sN at h
 exact sgo 37 [.tmp 4] Tryz.func102
instance:bG 102 (type_of% @aSz):=⟨@aSz⟩
theorem c25 (p0 p1 r) (h:xM p0 p1=some r):Sc 25 [aX (M.bJ.en p0),aX (M.bJ.en p1)] [rB r]:=by
 unfold xM at h
 exact sgo 37 [.tmp 4] Tryz.func25
instance:bG 25 (type_of% @c25):=⟨@c25⟩
theorem c71 (p0 p1 r) (h:yW p0 p1=some r):Sc 71 [aL M.bJ.en p0,aL M.bJ.en p1] [rB r]:=by
 have i1:=inv fun m s=>∃v5:Int,(s.t 0=vL M.bJ.en p0∧s.t 1=vL M.bJ.en p1∧s.t 5=vI v5)∧mI p0 p1 m v5=some r
 have e1:=@mI.eq_2
 unfold yW at h
 exact sgo 27 [.tmp 4] Tryz.func71
instance:bG 71 (type_of% @c71):=⟨@c71⟩
theorem aSA (p0 p1 r) (h:aAy p0 p1=some r):Sc 282 [aX (M.cT.en p0),aX (M.cT.en p1)] [rB r]:=by
 unfold aAy at h
 exact sgo 25 [.tmp 4] Tryz.func282
instance:bG 282 (type_of% @aSA):=⟨@aSA⟩
theorem aSY (p0 p1 r) (h:yI p0 p1=some r):Sc 183 [aL M.cT.en p0,aL M.cT.en p1] [rB r]:=by
 have i1:=inv fun m s=>∃v5:Int,(s.t 0=vL M.cT.en p0∧s.t 1=vL M.cT.en p1∧s.t 5=vI v5)∧mK p0 p1 m v5=some r
 have e1:=@mK.eq_2
 unfold yI at h
 exact sgo 27 [.tmp 4] Tryz.func183
instance:bG 183 (type_of% @aSY):=⟨@aSY⟩
theorem c72 (p0 p1 r) (h:oY p0 p1=some r):Sc 72 [aX (M.aW.en p0),aX (M.aW.en p1)] [rB r]:=by
 unfold oY at h
 exact sgo 11 [.tmp 4] Tryz.func72
instance:bG 72 (type_of% @c72):=⟨@c72⟩
theorem aRk (p0 p1 r) (h:aA2 p0 p1=some r):Sc 283 [aX (M.eO.en p0),aX (M.eO.en p1)] [rB r]:=by
 unfold aA2 at h
 exact sgo 20 [.tmp 4] Tryz.func283
instance:bG 283 (type_of% @aRk):=⟨@aRk⟩
theorem aTN (p0 p1 r) (h:zF p0 p1=some r):Sc 184 [aL M.eO.en p0,aL M.eO.en p1] [rB r]:=by
 have i1:=inv fun m s=>∃v5:Int,(s.t 0=vL M.eO.en p0∧s.t 1=vL M.eO.en p1∧s.t 5=vI v5)∧mP p0 p1 m v5=some r
 have e1:=@mP.eq_2
 unfold zF at h
 exact sgo 27 [.tmp 4] Tryz.func184
instance:bG 184 (type_of% @aTN):=⟨@aTN⟩
theorem c73 (p0 p1 r) (h:tN p0 p1=some r):Sc 73 [aX (M.Channel.en p0),aX (M.Channel.en p1)] [rB r]:=by
 unfold tN at h
 exact sgo 11 [.tmp 4] Tryz.func73
instance:bG 73 (type_of% @c73):=⟨@c73⟩
theorem aRc (p0 p1 r) (h:tZ p0 p1=some r):Sc 284 [aL enS p0,aL enS p1] [rB r]:=by
 have i1:=inv fun m s=>∃v5:Int,(s.t 0=vL enS p0∧s.t 1=vL enS p1∧s.t 5=vI v5)∧jK p0 p1 m v5=some r
 have e1:=@jK.eq_2
 unfold tZ at h
 exact sgo 26 [.tmp 4] Tryz.func284
instance:bG 284 (type_of% @aRc):=⟨@aRc⟩
theorem aTd (p0 p1 r) (h:aAS p0 p1=some r):Sc 185 [aX (M.Site.en p0),aX (M.Site.en p1)] [rB r]:=by
 unfold aAS at h
 exact sgo 26 [.tmp 4] Tryz.func185
instance:bG 185 (type_of% @aTd):=⟨@aTd⟩
theorem c74 (p0 p1 r) (h:zU p0 p1=some r):Sc 74 [aL M.Site.en p0,aL M.Site.en p1] [rB r]:=by
 have i1:=inv fun m s=>∃v5:Int,(s.t 0=vL M.Site.en p0∧s.t 1=vL M.Site.en p1∧s.t 5=vI v5)∧mE p0 p1 m v5=some r
 have e1:=@mE.eq_2
 unfold zU at h
 exact sgo 27 [.tmp 4] Tryz.func74
instance:bG 74 (type_of% @c74):=⟨@c74⟩
theorem aTj (p0 p1 r) (h:sY p0 p1=some r):Sc 366 [aX (M.aO.en p0),aX (M.aO.en p1)] [rB r]:=by
 unfold sY at h
 exact sgo 15 [.tmp 4] Tryz.func366
instance:bG 366 (type_of% @aTj):=⟨@aTj⟩
theorem aRL (p0 p1 r) (h:qG p0 p1=some r):Sc 286 [aL M.aO.en p0,aL M.aO.en p1] [rB r]:=by
 have i1:=inv fun m s=>∃v5:Int,(s.t 0=vL M.aO.en p0∧s.t 1=vL M.aO.en p1∧s.t 5=vI v5)∧iT p0 p1 m v5=some r
 have e1:=@iT.eq_2
 unfold qG at h
 exact sgo 27 [.tmp 4] Tryz.func286
instance:bG 286 (type_of% @aRL):=⟨@aRL⟩
theorem aUH (p0 p1 r) (h:wD p0 p1=some r):Sc 186 [aX (M.Server.en p0),aX (M.Server.en p1)] [rB r]:=by
 unfold wD at h
 exact sgo 23 [.tmp 4] Tryz.func186
instance:bG 186 (type_of% @aUH):=⟨@aUH⟩
theorem c75 (p0 p1 r) (h:tX p0 p1=some r):Sc 75 [aL M.Server.en p0,aL M.Server.en p1] [rB r]:=by
 have i1:=inv fun m s=>∃v5:Int,(s.t 0=vL M.Server.en p0∧s.t 1=vL M.Server.en p1∧s.t 5=vI v5)∧jJ p0 p1 m v5=some r
 have e1:=@jJ.eq_2
 unfold tX at h
 exact sgo 27 [.tmp 4] Tryz.func75
instance:bG 75 (type_of% @c75):=⟨@c75⟩
theorem c18 (p0 p1 r) (h:lS p0 p1=some r):Sc 18 [aX (M.World.en p0),aX (M.World.en p1)] [rB r]:=by
 unfold lS at h
 exact sgo 61 [.tmp 4] Tryz.func18
instance:bG 18 (type_of% @c18):=⟨@c18⟩
end Go.Proofs.YtnhpbpnhmapeeaaGreat.gen
