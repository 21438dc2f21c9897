/-
  Helper text. No conditions.
-/
import Derived.Test.YtnhpbpnhmapeeaaGreatActivateWorkerTi
namespace Go.Proofs.YtnhpbpnhmapeeaaGreat.gen
open Go Go.Sh
set_option linter.unusedVariables false
set_option linter.unusedSimpArgs false
set_option maxRecDepth 20000
set_option maxHeartbeats 4000000
theorem aSj (p0 p1 r) (h:kN p0 p1=some r):Sc 361 [aX (M.Registration.en p0),aX (M.Registration.en p1)] [rB r]:=by
 unfold kN at h
 exact sgo 25 [.tmp 4] Tryz.func361
instance:bC 361 (type_of% @aSj):=⟨@aSj⟩
theorem aTj (p0 p1 r) (h:vF p0 p1=some r):Sc 423 [aL enB p0,aL enB p1] [rB r]:=by
 have i1:=inv fun m s=>∃v5:Int,(s.t 0=vL enB p0∧s.t 1=vL enB p1∧s.t 5=vI v5)∧mG p0 p1 m v5=some r
 have e1:=@mG.eq_2
 unfold vF at h
 exact sgo 26 [.tmp 4] Tryz.func423
instance:bC 423 (type_of% @aTj):=⟨@aTj⟩
theorem aVi (p0 p1 r) (h:rD p0 p1=some r):Sc 493 [aX (M.Response.en p0),aX (M.Response.en p1)] [rB r]:=by
 unfold rD at h
 exact sgo 31 [.tmp 4] Tryz.func493
instance:bC 493 (type_of% @aVi):=⟨@aVi⟩
theorem aUd (p0 p1 r) (h:wT p0 p1=some r):Sc 489 [aX (M.Cached.en p0),aX (M.Cached.en p1)] [rB r]:=by
 unfold wT at h
 exact sgo 21 [.tmp 4] Tryz.func489
instance:bC 489 (type_of% @aUd):=⟨@aUd⟩
theorem aSl (p0 p1 r) (h:tT p0 p1=some r):Sc 480 [aL M.Cached.en p0,aL M.Cached.en p1] [rB r]:=by
 have i1:=inv fun m s=>∃v5:Int,(s.t 0=vL M.Cached.en p0∧s.t 1=vL M.Cached.en p1∧s.t 5=vI v5)∧jS p0 p1 m v5=some r
 have e1:=@jS.eq_2
 unfold tT at h
 exact sgo 27 [.tmp 4] Tryz.func480
instance:bC 480 (type_of% @aSl):=⟨@aSl⟩
theorem aVc (p0 p1 r) (h:zX p0 p1=some r):Sc 461 [aX (M.Cache.en p0),aX (M.Cache.en p1)] [rB r]:=by
 unfold zX at h
 exact sgo 16 [.tmp 4] Tryz.func461
instance:bC 461 (type_of% @aVc):=⟨@aVc⟩
theorem aUZ (p0 p1 r) (h:xB p0 p1=some r):Sc 421 [aL M.Cache.en p0,aL M.Cache.en p1] [rB r]:=by
 have i1:=inv fun m s=>∃v5:Int,(s.t 0=vL M.Cache.en p0∧s.t 1=vL M.Cache.en p1∧s.t 5=vI v5)∧kX p0 p1 m v5=some r
 have e1:=@kX.eq_2
 unfold xB at h
 exact sgo 27 [.tmp 4] Tryz.func421
instance:bC 421 (type_of% @aUZ):=⟨@aUZ⟩
theorem aSd (p0 p1 r) (h:qQ p0 p1=some r):Sc 362 [aX (M.aM.en p0),aX (M.aM.en p1)] [rB r]:=by
 unfold qQ at h
 exact sgo 11 [.tmp 4] Tryz.func362
instance:bC 362 (type_of% @aSd):=⟨@aSd⟩
theorem aS6 (p0 p1 r) (h:aAQ p0 p1=some r):Sc 426 [aX (M.Key.en p0),aX (M.Key.en p1)] [rB r]:=by
 unfold aAQ at h
 exact sgo 20 [.tmp 4] Tryz.func426
instance:bC 426 (type_of% @aS6):=⟨@aS6⟩
theorem aSC (p0 p1 r) (h:yN p0 p1=some r):Sc 490 [aX (M.Field.en p0),aX (M.Field.en p1)] [rB r]:=by
 unfold yN at h
 exact sgo 15 [.tmp 4] Tryz.func490
instance:bC 490 (type_of% @aSC):=⟨@aSC⟩
theorem aU0 (p0 p1 r) (h:xF p0 p1=some r):Sc 482 [aL M.Field.en p0,aL M.Field.en p1] [rB r]:=by
 have i1:=inv fun m s=>∃v5:Int,(s.t 0=vL M.Field.en p0∧s.t 1=vL M.Field.en p1∧s.t 5=vI v5)∧kT p0 p1 m v5=some r
 have e1:=@kT.eq_2
 unfold xF at h
 exact sgo 27 [.tmp 4] Tryz.func482
instance:bC 482 (type_of% @aU0):=⟨@aU0⟩
theorem aTb (p0 p1 r) (h:xK p0 p1=some r):Sc 465 [aX (M.aU.en p0),aX (M.aU.en p1)] [rB r]:=by
 unfold xK at h
 exact sgo 11 [.tmp 4] Tryz.func465
instance:bC 465 (type_of% @aTb):=⟨@aTb⟩
theorem aVR (p0 p1 r) (h:aAc p0 p1=some r):Sc 425 [aX (M.Item.en p0),aX (M.Item.en p1)] [rB r]:=by
 unfold aAc at h
 exact sgo 17 [.tmp 4] Tryz.func425
instance:bC 425 (type_of% @aVR):=⟨@aVR⟩
theorem aVC (p0 p1 r) (h:aAA p0 p1=some r):Sc 365 [aL M.Item.en p0,aL M.Item.en p1] [rB r]:=by
 have i1:=inv fun m s=>∃v5:Int,(s.t 0=vL M.Item.en p0∧s.t 1=vL M.Item.en p1∧s.t 5=vI v5)∧mD p0 p1 m v5=some r
 have e1:=@mD.eq_2
 unfold aAA at h
 exact sgo 27 [.tmp 4] Tryz.func365
instance:bC 365 (type_of% @aVC):=⟨@aVC⟩
theorem aVg (p0 p1 r) (h:pQ p0 p1=some r):Sc 285 [aX (M.aH.en p0),aX (M.aH.en p1)] [rB r]:=by
 unfold pQ at h
 exact sgo 21 [.tmp 4] Tryz.func285
instance:bC 285 (type_of% @aVg):=⟨@aVg⟩
theorem aRM (p0 p1 r) (h:wB p0 p1=some r):Sc 462 [aL M.aH.en p0,aL M.aH.en p1] [rB r]:=by
 have i1:=inv fun m s=>∃v5:Int,(s.t 0=vL M.aH.en p0∧s.t 1=vL M.aH.en p1∧s.t 5=vI v5)∧kR p0 p1 m v5=some r
 have e1:=@kR.eq_2
 unfold wB at h
 exact sgo 27 [.tmp 4] Tryz.func462
instance:bC 462 (type_of% @aRM):=⟨@aRM⟩
theorem aTU (p0 p1 r) (h:rG p0 p1=some r):Sc 481 [aX (M.aD.en p0),aX (M.aD.en p1)] [rB r]:=by
 unfold rG at h
 exact sgo 15 [.tmp 4] Tryz.func481
instance:bC 481 (type_of% @aTU):=⟨@aTU⟩
theorem aVB (p0 p1 r) (h:oP p0 p1=some r):Sc 463 [aL M.aD.en p0,aL M.aD.en p1] [rB r]:=by
 have i1:=inv fun m s=>∃v5:Int,(s.t 0=vL M.aD.en p0∧s.t 1=vL M.aD.en p1∧s.t 5=vI v5)∧iL p0 p1 m v5=some r
 have e1:=@iL.eq_2
 unfold oP at h
 exact sgo 27 [.tmp 4] Tryz.func463
instance:bC 463 (type_of% @aVB):=⟨@aVB⟩
theorem aSE (p0 p1 r) (h:rO p0 p1=some r):Sc 422 [aX (M.Database.en p0),aX (M.Database.en p1)] [rB r]:=by
 unfold rO at h
 exact sgo 27 [.tmp 4] Tryz.func422
instance:bC 422 (type_of% @aSE):=⟨@aSE⟩
theorem aTW (p0 p1 r) (h:aA0 p0 p1=some r):Sc 363 [aX (M.bB.en p0),aX (M.bB.en p1)] [rB r]:=by
 unfold aA0 at h
 exact sgo 22 [.tmp 4] Tryz.func363
instance:bC 363 (type_of% @aTW):=⟨@aTW⟩
theorem aSO (p0 p1 r) (h:yP p0 p1=some r):Sc 367 [aX (M.aY.en p0),aX (M.aY.en p1)] [rB r]:=by
 unfold yP at h
 exact sgo 31 [.tmp 4] Tryz.func367
instance:bC 367 (type_of% @aSO):=⟨@aSO⟩
theorem aSn (p0 p1 r) (h:rQ p0 p1=some r):Sc 287 [aL M.aY.en p0,aL M.aY.en p1] [rB r]:=by
 have i1:=inv fun m s=>∃v5:Int,(s.t 0=vL M.aY.en p0∧s.t 1=vL M.aY.en p1∧s.t 5=vI v5)∧lB p0 p1 m v5=some r
 have e1:=@lB.eq_2
 unfold rQ at h
 exact sgo 27 [.tmp 4] Tryz.func287
instance:bC 287 (type_of% @aSn):=⟨@aSn⟩
theorem aVM (p0 p1 r) (h:xN p0 p1=some r):Sc 464 [aX (M.aV.en p0),aX (M.aV.en p1)] [rB r]:=by
 unfold xN at h
 exact sgo 21 [.tmp 4] Tryz.func464
instance:bC 464 (type_of% @aVM):=⟨@aVM⟩
theorem aTq (p0 p1 r) (h:aAg p0 p1=some r):Sc 424 [aX (M.Sync.en p0),aX (M.Sync.en p1)] [rB r]:=by
 unfold aAg at h
 exact sgo 21 [.tmp 4] Tryz.func424
instance:bC 424 (type_of% @aTq):=⟨@aTq⟩
theorem aSx (p0 p1 r) (h:uA p0 p1=some r):Sc 364 [aX (M.aE.en p0),aX (M.aE.en p1)] [rB r]:=by
 unfold uA at h
 exact sgo 22 [.tmp 4] Tryz.func364
instance:bC 364 (type_of% @aSx):=⟨@aSx⟩
theorem aTo (p0 p1 r) (h:wK p0 p1=some r):Sc 281 [aX (M.aA.en p0),aX (M.aA.en p1)] [rB r]:=by
 unfold wK at h
 exact sgo 49 [.tmp 4] Tryz.func281
instance:bC 281 (type_of% @aTo):=⟨@aTo⟩
theorem aVd (p0 p1 r) (h:uK p0 p1=some r):Sc 182 [aL M.aA.en p0,aL M.aA.en p1] [rB r]:=by
 have i1:=inv fun m s=>∃v5:Int,(s.t 0=vL M.aA.en p0∧s.t 1=vL M.aA.en p1∧s.t 5=vI v5)∧jL p0 p1 m v5=some r
 have e1:=@jL.eq_2
 unfold uK at h
 exact sgo 27 [.tmp 4] Tryz.func182
instance:bC 182 (type_of% @aVd):=⟨@aVd⟩
theorem c70 (p0 p1 r) (h:uJ p0 p1=some r):Sc 70 [aX (M.aC.en p0),aX (M.aC.en p1)] [rB r]:=by
 unfold uJ at h
 exact sgo 11 [.tmp 4] Tryz.func70
instance:bC 70 (type_of% @c70):=⟨@c70⟩
theorem aRl (p0 p1 r) (h:vZ p0 p1=some r):Sc 223 [aX (M.aN.en p0),aX (M.aN.en p1)] [rB r]:=by
 unfold vZ at h
 exact sgo 15 [.tmp 4] Tryz.func223
instance:bC 223 (type_of% @aRl):=⟨@aRl⟩
theorem aR3 (p0 p1 r) (h:uM p0 p1=some r):Sc 101 [aL M.aN.en p0,aL M.aN.en p1] [rB r]:=by
 have i1:=inv fun m s=>∃v5:Int,(s.t 0=vL M.aN.en p0∧s.t 1=vL M.aN.en p1∧s.t 5=vI v5)∧jV p0 p1 m v5=some r
 have e1:=@jV.eq_2
 unfold uM at h
 exact sgo 27 [.tmp 4] Tryz.func101
instance:bC 101 (type_of% @aR3):=⟨@aR3⟩
theorem aUg (p0 p1 r) (h:yL p0 p1=some r):Sc 125 [aX (M.Instr.en p0),aX (M.Instr.en p1)] [rB r]:=by
 unfold yL at h
 exact sgo 25 [.tmp 4] Tryz.func125
instance:bC 125 (type_of% @aUg):=⟨@aUg⟩
theorem c32 (p0 p1 r) (h:xA p0 p1=some r):Sc 32 [aL M.Instr.en p0,aL M.Instr.en p1] [rB r]:=by
 have i1:=inv fun m s=>∃v5:Int,(s.t 0=vL M.Instr.en p0∧s.t 1=vL M.Instr.en p1∧s.t 5=vI v5)∧kV p0 p1 m v5=some r
 have e1:=@kV.eq_2
 unfold xA at h
 exact sgo 27 [.tmp 4] Tryz.func32
instance:bC 32 (type_of% @c32):=⟨@c32⟩
theorem aTF (p0 p1 r) (h:aA1 p0 p1=some r):Sc 224 [aL enI p0,aL enI p1] [rB r]:=by
 have i1:=inv fun m s=>∃v5:Int,(s.t 0=vL enI p0∧s.t 1=vL enI p1∧s.t 5=vI v5)∧nP p0 p1 m v5=some r
 have e1:=@nP.eq_2
 unfold aA1 at h
 exact sgo 26 [.tmp 4] Tryz.func224
instance:bC 224 (type_of% @aTF):=⟨@aTF⟩
theorem aTK (p0 p1 r) (h:sS p0 p1=some r):Sc 102 [aX (M.Machine.en p0),aX (M.Machine.en p1)] [rB r]:=by
 unfold sS at h
 exact sgo 37 [.tmp 4] Tryz.func102
instance:bC 102 (type_of% @aTK):=⟨@aTK⟩
theorem c25 (p0 p1 r) (h:aAq p0 p1=some r):Sc 25 [aX (M.bI.en p0),aX (M.bI.en p1)] [rB r]:=by
 unfold aAq at h
 exact sgo 37 [.tmp 4] Tryz.func25
instance:bC 25 (type_of% @c25):=⟨@c25⟩
theorem c71 (p0 p1 r) (h:zG p0 p1=some r):Sc 71 [aL M.bI.en p0,aL M.bI.en p1] [rB r]:=by
 have i1:=inv fun m s=>∃v5:Int,(s.t 0=vL M.bI.en p0∧s.t 1=vL M.bI.en p1∧s.t 5=vI v5)∧mL p0 p1 m v5=some r
 have e1:=@mL.eq_2
 unfold zG at h
 exact sgo 27 [.tmp 4] Tryz.func71
instance:bC 71 (type_of% @c71):=⟨@c71⟩
theorem aSP (p0 p1 r) (h:aA9 p0 p1=some r):Sc 282 [aX (M.cG.en p0),aX (M.cG.en p1)] [rB r]:=by
 unfold aA9 at h
 exact sgo 25 [.tmp 4] Tryz.func282
instance:bC 282 (type_of% @aSP):=⟨@aSP⟩
theorem aSr (p0 p1 r) (h:yT p0 p1=some r):Sc 183 [aL M.cG.en p0,aL M.cG.en p1] [rB r]:=by
 have i1:=inv fun m s=>∃v5:Int,(s.t 0=vL M.cG.en p0∧s.t 1=vL M.cG.en p1∧s.t 5=vI v5)∧mN p0 p1 m v5=some r
 have e1:=@mN.eq_2
 unfold yT at h
 exact sgo 27 [.tmp 4] Tryz.func183
instance:bC 183 (type_of% @aSr):=⟨@aSr⟩
theorem c72 (p0 p1 r) (h:oY p0 p1=some r):Sc 72 [aX (M.aR.en p0),aX (M.aR.en p1)] [rB r]:=by
 unfold oY at h
 exact sgo 11 [.tmp 4] Tryz.func72
instance:bC 72 (type_of% @c72):=⟨@c72⟩
theorem aRw (p0 p1 r) (h:aBD p0 p1=some r):Sc 283 [aX (M.fK.en p0),aX (M.fK.en p1)] [rB r]:=by
 unfold aBD at h
 exact sgo 20 [.tmp 4] Tryz.func283
instance:bC 283 (type_of% @aRw):=⟨@aRw⟩
theorem aTl (p0 p1 r) (h:zR p0 p1=some r):Sc 184 [aL M.fK.en p0,aL M.fK.en p1] [rB r]:=by
 have i1:=inv fun m s=>∃v5:Int,(s.t 0=vL M.fK.en p0∧s.t 1=vL M.fK.en p1∧s.t 5=vI v5)∧mP p0 p1 m v5=some r
 have e1:=@mP.eq_2
 unfold zR at h
 exact sgo 27 [.tmp 4] Tryz.func184
instance:bC 184 (type_of% @aTl):=⟨@aTl⟩
theorem c73 (p0 p1 r) (h:tW p0 p1=some r):Sc 73 [aX (M.Channel.en p0),aX (M.Channel.en p1)] [rB r]:=by
 unfold tW at h
 exact sgo 11 [.tmp 4] Tryz.func73
instance:bC 73 (type_of% @c73):=⟨@c73⟩
theorem aRm (p0 p1 r) (h:uH p0 p1=some r):Sc 284 [aL enS p0,aL enS p1] [rB r]:=by
 have i1:=inv fun m s=>∃v5:Int,(s.t 0=vL enS p0∧s.t 1=vL enS p1∧s.t 5=vI v5)∧jQ p0 p1 m v5=some r
 have e1:=@jQ.eq_2
 unfold uH at h
 exact sgo 26 [.tmp 4] Tryz.func284
instance:bC 284 (type_of% @aRm):=⟨@aRm⟩
theorem aT3 (p0 p1 r) (h:aAZ p0 p1=some r):Sc 185 [aX (M.Site.en p0),aX (M.Site.en p1)] [rB r]:=by
 unfold aAZ at h
 exact sgo 26 [.tmp 4] Tryz.func185
instance:bC 185 (type_of% @aT3):=⟨@aT3⟩
theorem c74 (p0 p1 r) (h:aAG p0 p1=some r):Sc 74 [aL M.Site.en p0,aL M.Site.en p1] [rB r]:=by
 have i1:=inv fun m s=>∃v5:Int,(s.t 0=vL M.Site.en p0∧s.t 1=vL M.Site.en p1∧s.t 5=vI v5)∧mH p0 p1 m v5=some r
 have e1:=@mH.eq_2
 unfold aAG at h
 exact sgo 27 [.tmp 4] Tryz.func74
instance:bC 74 (type_of% @c74):=⟨@c74⟩
theorem aT9 (p0 p1 r) (h:tE p0 p1=some r):Sc 366 [aX (M.aJ.en p0),aX (M.aJ.en p1)] [rB r]:=by
 unfold tE at h
 exact sgo 15 [.tmp 4] Tryz.func366
instance:bC 366 (type_of% @aT9):=⟨@aT9⟩
theorem aRV (p0 p1 r) (h:qJ p0 p1=some r):Sc 286 [aL M.aJ.en p0,aL M.aJ.en p1] [rB r]:=by
 have i1:=inv fun m s=>∃v5:Int,(s.t 0=vL M.aJ.en p0∧s.t 1=vL M.aJ.en p1∧s.t 5=vI v5)∧jC p0 p1 m v5=some r
 have e1:=@jC.eq_2
 unfold qJ at h
 exact sgo 27 [.tmp 4] Tryz.func286
instance:bC 286 (type_of% @aRV):=⟨@aRV⟩
theorem aUn (p0 p1 r) (h:wL p0 p1=some r):Sc 186 [aX (M.Server.en p0),aX (M.Server.en p1)] [rB r]:=by
 unfold wL at h
 exact sgo 23 [.tmp 4] Tryz.func186
instance:bC 186 (type_of% @aUn):=⟨@aUn⟩
theorem c75 (p0 p1 r) (h:uF p0 p1=some r):Sc 75 [aL M.Server.en p0,aL M.Server.en p1] [rB r]:=by
 have i1:=inv fun m s=>∃v5:Int,(s.t 0=vL M.Server.en p0∧s.t 1=vL M.Server.en p1∧s.t 5=vI v5)∧jP p0 p1 m v5=some r
 have e1:=@jP.eq_2
 unfold uF at h
 exact sgo 27 [.tmp 4] Tryz.func75
instance:bC 75 (type_of% @c75):=⟨@c75⟩
theorem c18 (p0 p1 r) (h:lY p0 p1=some r):Sc 18 [aX (M.World.en p0),aX (M.World.en p1)] [rB r]:=by
 unfold lY at h
 exact sgo 61 [.tmp 4] Tryz.func18
instance:bC 18 (type_of% @c18):=⟨@c18⟩
end Go.Proofs.YtnhpbpnhmapeeaaGreat.gen
