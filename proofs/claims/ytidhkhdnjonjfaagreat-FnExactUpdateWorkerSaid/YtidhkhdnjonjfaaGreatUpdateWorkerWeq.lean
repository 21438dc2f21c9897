/-
  Helper text. No conditions.
-/
import Derived.Test.YtidhkhdnjonjfaaGreatUpdateWorkerTi
set_option linter.unusedVariables false
set_option linter.unusedSimpArgs false
namespace Go.Proofs.YtidhkhdnjonjfaaGreat.gen
open Go Go.Sh
set_option maxRecDepth 20000
set_option maxHeartbeats 4000000
theorem aUG (p0 p1 r) (h:lO p0 p1=some r):Sc 442 [aX (M.Registration.en p0),aX (M.Registration.en p1)] [rB r]:=by
 unfold lO at h
 exact sgo 25 [.tmp 4] Tryz.func442
instance:bA 442 (type_of% @aUG):=⟨@aUG⟩
theorem aWl (p0 p1 r) (h:yC p0 p1=some r):Sc 502 [aL enB p0,aL enB p1] [rB r]:=by
 have i1:=inv fun m s=>∃v5:Int,(s.t 0=vL enB p0∧s.t 1=vL enB p1∧s.t 5=vI v5)∧nN p0 p1 m v5=some r
 have e1:=@nN.eq_2
 unfold yC at h
 exact sgo 26 [.tmp 4] Tryz.func502
instance:bA 502 (type_of% @aWl):=⟨@aWl⟩
theorem aT9 (p0 p1 r) (h:uC p0 p1=some r):Sc 558 [aX (M.Response.en p0),aX (M.Response.en p1)] [rB r]:=by
 unfold uC at h
 exact sgo 31 [.tmp 4] Tryz.func558
instance:bA 558 (type_of% @aT9):=⟨@aT9⟩
theorem aVc (p0 p1 r) (h:zO p0 p1=some r):Sc 553 [aX (M.Cached.en p0),aX (M.Cached.en p1)] [rB r]:=by
 unfold zO at h
 exact sgo 21 [.tmp 4] Tryz.func553
instance:bA 553 (type_of% @aVc):=⟨@aVc⟩
theorem aXW (p0 p1 r) (h:wR p0 p1=some r):Sc 545 [aL M.Cached.en p0,aL M.Cached.en p1] [rB r]:=by
 have i1:=inv fun m s=>∃v5:Int,(s.t 0=vL M.Cached.en p0∧s.t 1=vL M.Cached.en p1∧s.t 5=vI v5)∧kQ p0 p1 m v5=some r
 have e1:=@kQ.eq_2
 unfold wR at h
 exact sgo 27 [.tmp 4] Tryz.func545
instance:bA 545 (type_of% @aXW):=⟨@aXW⟩
theorem aUg (p0 p1 r) (h:aBC p0 p1=some r):Sc 528 [aX (M.Cache.en p0),aX (M.Cache.en p1)] [rB r]:=by
 unfold aBC at h
 exact sgo 16 [.tmp 4] Tryz.func528
instance:bA 528 (type_of% @aUg):=⟨@aUg⟩
theorem aVJ (p0 p1 r) (h:zV p0 p1=some r):Sc 500 [aL M.Cache.en p0,aL M.Cache.en p1] [rB r]:=by
 have i1:=inv fun m s=>∃v5:Int,(s.t 0=vL M.Cache.en p0∧s.t 1=vL M.Cache.en p1∧s.t 5=vI v5)∧mA p0 p1 m v5=some r
 have e1:=@mA.eq_2
 unfold zV at h
 exact sgo 27 [.tmp 4] Tryz.func500
instance:bA 500 (type_of% @aVJ):=⟨@aVJ⟩
theorem aXP (p0 p1 r) (h:tR p0 p1=some r):Sc 443 [aX (M.aA.en p0),aX (M.aA.en p1)] [rB r]:=by
 unfold tR at h
 exact sgo 11 [.tmp 4] Tryz.func443
instance:bA 443 (type_of% @aXP):=⟨@aXP⟩
theorem aYY (p0 p1 r) (h:aBU p0 p1=some r):Sc 505 [aX (M.Key.en p0),aX (M.Key.en p1)] [rB r]:=by
 unfold aBU at h
 exact sgo 20 [.tmp 4] Tryz.func505
instance:bA 505 (type_of% @aYY):=⟨@aYY⟩
theorem aVR (p0 p1 r) (h:aAc p0 p1=some r):Sc 554 [aX (M.Field.en p0),aX (M.Field.en p1)] [rB r]:=by
 unfold aAc at h
 exact sgo 15 [.tmp 4] Tryz.func554
instance:bA 554 (type_of% @aVR):=⟨@aVR⟩
theorem aUF (p0 p1 r) (h:zZ p0 p1=some r):Sc 547 [aL M.Field.en p0,aL M.Field.en p1] [rB r]:=by
 have i1:=inv fun m s=>∃v5:Int,(s.t 0=vL M.Field.en p0∧s.t 1=vL M.Field.en p1∧s.t 5=vI v5)∧lV p0 p1 m v5=some r
 have e1:=@lV.eq_2
 unfold zZ at h
 exact sgo 27 [.tmp 4] Tryz.func547
instance:bA 547 (type_of% @aUF):=⟨@aUF⟩
theorem aWp (p0 p1 r) (h:aAB p0 p1=some r):Sc 532 [aX (M.aU.en p0),aX (M.aU.en p1)] [rB r]:=by
 unfold aAB at h
 exact sgo 11 [.tmp 4] Tryz.func532
instance:bA 532 (type_of% @aWp):=⟨@aWp⟩
theorem aWs (p0 p1 r) (h:aBh p0 p1=some r):Sc 504 [aX (M.Item.en p0),aX (M.Item.en p1)] [rB r]:=by
 unfold aBh at h
 exact sgo 17 [.tmp 4] Tryz.func504
instance:bA 504 (type_of% @aWs):=⟨@aWs⟩
theorem aXY (p0 p1 r) (h:aBF p0 p1=some r):Sc 446 [aL M.Item.en p0,aL M.Item.en p1] [rB r]:=by
 have i1:=inv fun m s=>∃v5:Int,(s.t 0=vL M.Item.en p0∧s.t 1=vL M.Item.en p1∧s.t 5=vI v5)∧nK p0 p1 m v5=some r
 have e1:=@nK.eq_2
 unfold aBF at h
 exact sgo 27 [.tmp 4] Tryz.func446
instance:bA 446 (type_of% @aXY):=⟨@aXY⟩
theorem aXC (p0 p1 r) (h:sL p0 p1=some r):Sc 349 [aX (M.aJ.en p0),aX (M.aJ.en p1)] [rB r]:=by
 unfold sL at h
 exact sgo 21 [.tmp 4] Tryz.func349
instance:bA 349 (type_of% @aXC):=⟨@aXC⟩
theorem aYL (p0 p1 r) (h:yV p0 p1=some r):Sc 529 [aL M.aJ.en p0,aL M.aJ.en p1] [rB r]:=by
 have i1:=inv fun m s=>∃v5:Int,(s.t 0=vL M.aJ.en p0∧s.t 1=vL M.aJ.en p1∧s.t 5=vI v5)∧lS p0 p1 m v5=some r
 have e1:=@lS.eq_2
 unfold yV at h
 exact sgo 27 [.tmp 4] Tryz.func529
instance:bA 529 (type_of% @aYL):=⟨@aYL⟩
theorem aXT (p0 p1 r) (h:uG p0 p1=some r):Sc 546 [aX (M.aD.en p0),aX (M.aD.en p1)] [rB r]:=by
 unfold uG at h
 exact sgo 15 [.tmp 4] Tryz.func546
instance:bA 546 (type_of% @aXT):=⟨@aXT⟩
theorem aVU (p0 p1 r) (h:rF p0 p1=some r):Sc 530 [aL M.aD.en p0,aL M.aD.en p1] [rB r]:=by
 have i1:=inv fun m s=>∃v5:Int,(s.t 0=vL M.aD.en p0∧s.t 1=vL M.aD.en p1∧s.t 5=vI v5)∧jE p0 p1 m v5=some r
 have e1:=@jE.eq_2
 unfold rF at h
 exact sgo 27 [.tmp 4] Tryz.func530
instance:bA 530 (type_of% @aVU):=⟨@aVU⟩
theorem aW9 (p0 p1 r) (h:uN p0 p1=some r):Sc 501 [aX (M.Database.en p0),aX (M.Database.en p1)] [rB r]:=by
 unfold uN at h
 exact sgo 27 [.tmp 4] Tryz.func501
instance:bA 501 (type_of% @aW9):=⟨@aW9⟩
theorem aYE (p0 p1 r) (h:aB6 p0 p1=some r):Sc 444 [aX (M.bB.en p0),aX (M.bB.en p1)] [rB r]:=by
 unfold aB6 at h
 exact sgo 22 [.tmp 4] Tryz.func444
instance:bA 444 (type_of% @aYE):=⟨@aYE⟩
theorem aVG (p0 p1 r) (h:aAg p0 p1=some r):Sc 448 [aX (M.aW.en p0),aX (M.aW.en p1)] [rB r]:=by
 unfold aAg at h
 exact sgo 31 [.tmp 4] Tryz.func448
instance:bA 448 (type_of% @aVG):=⟨@aVG⟩
theorem aUt (p0 p1 r) (h:uP p0 p1=some r):Sc 351 [aL M.aW.en p0,aL M.aW.en p1] [rB r]:=by
 have i1:=inv fun m s=>∃v5:Int,(s.t 0=vL M.aW.en p0∧s.t 1=vL M.aW.en p1∧s.t 5=vI v5)∧mE p0 p1 m v5=some r
 have e1:=@mE.eq_2
 unfold uP at h
 exact sgo 27 [.tmp 4] Tryz.func351
instance:bA 351 (type_of% @aUt):=⟨@aUt⟩
theorem aWV (p0 p1 r) (h:aAE p0 p1=some r):Sc 531 [aX (M.aV.en p0),aX (M.aV.en p1)] [rB r]:=by
 unfold aAE at h
 exact sgo 21 [.tmp 4] Tryz.func531
instance:bA 531 (type_of% @aWV):=⟨@aWV⟩
theorem aUS (p0 p1 r) (h:aBl p0 p1=some r):Sc 503 [aX (M.Sync.en p0),aX (M.Sync.en p1)] [rB r]:=by
 unfold aBl at h
 exact sgo 21 [.tmp 4] Tryz.func503
instance:bA 503 (type_of% @aUS):=⟨@aUS⟩
theorem aUi (p0 p1 r) (h:xA p0 p1=some r):Sc 445 [aX (M.aE.en p0),aX (M.aE.en p1)] [rB r]:=by
 unfold xA at h
 exact sgo 22 [.tmp 4] Tryz.func445
instance:bA 445 (type_of% @aUi):=⟨@aUi⟩
theorem aYN (p0 p1 r) (h:zD p0 p1=some r):Sc 345 [aX (M.Bucket.en p0),aX (M.Bucket.en p1)] [rB r]:=by
 unfold zD at h
 exact sgo 49 [.tmp 4] Tryz.func345
instance:bA 345 (type_of% @aYN):=⟨@aYN⟩
theorem aUu (p0 p1 r) (h:xK p0 p1=some r):Sc 194 [aL M.Bucket.en p0,aL M.Bucket.en p1] [rB r]:=by
 have i1:=inv fun m s=>∃v5:Int,(s.t 0=vL M.Bucket.en p0∧s.t 1=vL M.Bucket.en p1∧s.t 5=vI v5)∧kH p0 p1 m v5=some r
 have e1:=@kH.eq_2
 unfold xK at h
 exact sgo 27 [.tmp 4] Tryz.func194
instance:bA 194 (type_of% @aUu):=⟨@aUu⟩
theorem c86 (p0 p1 r) (h:xJ p0 p1=some r):Sc 86 [aX (M.aC.en p0),aX (M.aC.en p1)] [rB r]:=by
 unfold xJ at h
 exact sgo 11 [.tmp 4] Tryz.func86
instance:bA 86 (type_of% @c86):=⟨@c86⟩
theorem aWi (p0 p1 r) (h:yT p0 p1=some r):Sc 199 [aX (M.aN.en p0),aX (M.aN.en p1)] [rB r]:=by
 unfold yT at h
 exact sgo 15 [.tmp 4] Tryz.func199
instance:bA 199 (type_of% @aWi):=⟨@aWi⟩
theorem c92 (p0 p1 r) (h:xM p0 p1=some r):Sc 92 [aL M.aN.en p0,aL M.aN.en p1] [rB r]:=by
 have i1:=inv fun m s=>∃v5:Int,(s.t 0=vL M.aN.en p0∧s.t 1=vL M.aN.en p1∧s.t 5=vI v5)∧kU p0 p1 m v5=some r
 have e1:=@kU.eq_2
 unfold xM at h
 exact sgo 27 [.tmp 4] Tryz.func92
instance:bA 92 (type_of% @c92):=⟨@c92⟩
theorem aWU (p0 p1 r) (h:aAa p0 p1=some r):Sc 352 [aX (M.Instr.en p0),aX (M.Instr.en p1)] [rB r]:=by
 unfold aAa at h
 exact sgo 25 [.tmp 4] Tryz.func352
instance:bA 352 (type_of% @aWU):=⟨@aWU⟩
theorem aUl (p0 p1 r) (h:zU p0 p1=some r):Sc 200 [aL M.Instr.en p0,aL M.Instr.en p1] [rB r]:=by
 have i1:=inv fun m s=>∃v5:Int,(s.t 0=vL M.Instr.en p0∧s.t 1=vL M.Instr.en p1∧s.t 5=vI v5)∧lY p0 p1 m v5=some r
 have e1:=@lY.eq_2
 unfold zU at h
 exact sgo 27 [.tmp 4] Tryz.func200
instance:bA 200 (type_of% @aUl):=⟨@aUl⟩
theorem aUU (p0 p1 r) (h:aB7 p0 p1=some r):Sc 201 [aL enI p0,aL enI p1] [rB r]:=by
 have i1:=inv fun m s=>∃v5:Int,(s.t 0=vL enI p0∧s.t 1=vL enI p1∧s.t 5=vI v5)∧oZ p0 p1 m v5=some r
 have e1:=@oZ.eq_2
 unfold aB7 at h
 exact sgo 26 [.tmp 4] Tryz.func201
instance:bA 201 (type_of% @aUU):=⟨@aUU⟩
theorem c93 (p0 p1 r) (h:vU p0 p1=some r):Sc 93 [aX (M.Machine.en p0),aX (M.Machine.en p1)] [rB r]:=by
 unfold vU at h
 exact sgo 37 [.tmp 4] Tryz.func93
instance:bA 93 (type_of% @c93):=⟨@c93⟩
theorem c26 (p0 p1 r) (h:aBu p0 p1=some r):Sc 26 [aX (M.bJ.en p0),aX (M.bJ.en p1)] [rB r]:=by
 unfold aBu at h
 exact sgo 37 [.tmp 4] Tryz.func26
instance:bA 26 (type_of% @c26):=⟨@c26⟩
theorem c87 (p0 p1 r) (h:aAy p0 p1=some r):Sc 87 [aL M.bJ.en p0,aL M.bJ.en p1] [rB r]:=by
 have i1:=inv fun m s=>∃v5:Int,(s.t 0=vL M.bJ.en p0∧s.t 1=vL M.bJ.en p1∧s.t 5=vI v5)∧nT p0 p1 m v5=some r
 have e1:=@nT.eq_2
 unfold aAy at h
 exact sgo 27 [.tmp 4] Tryz.func87
instance:bA 87 (type_of% @c87):=⟨@c87⟩
theorem aXm (p0 p1 r) (h:aCF p0 p1=some r):Sc 346 [aX (M.dA.en p0),aX (M.dA.en p1)] [rB r]:=by
 unfold aCF at h
 exact sgo 25 [.tmp 4] Tryz.func346
instance:bA 346 (type_of% @aXm):=⟨@aXm⟩
theorem aWj (p0 p1 r) (h:aAi p0 p1=some r):Sc 195 [aL M.dA.en p0,aL M.dA.en p1] [rB r]:=by
 have i1:=inv fun m s=>∃v5:Int,(s.t 0=vL M.dA.en p0∧s.t 1=vL M.dA.en p1∧s.t 5=vI v5)∧nV p0 p1 m v5=some r
 have e1:=@nV.eq_2
 unfold aAi at h
 exact sgo 27 [.tmp 4] Tryz.func195
instance:bA 195 (type_of% @aWj):=⟨@aWj⟩
theorem c88 (p0 p1 r) (h:rK p0 p1=some r):Sc 88 [aX (M.aP.en p0),aX (M.aP.en p1)] [rB r]:=by
 unfold rK at h
 exact sgo 11 [.tmp 4] Tryz.func88
instance:bA 88 (type_of% @c88):=⟨@c88⟩
theorem aU3 (p0 p1 r) (h:aCI p0 p1=some r):Sc 347 [aX (M.fW.en p0),aX (M.fW.en p1)] [rB r]:=by
 unfold aCI at h
 exact sgo 20 [.tmp 4] Tryz.func347
instance:bA 347 (type_of% @aU3):=⟨@aU3⟩
theorem aW4 (p0 p1 r) (h:aA7 p0 p1=some r):Sc 196 [aL M.fW.en p0,aL M.fW.en p1] [rB r]:=by
 have i1:=inv fun m s=>∃v5:Int,(s.t 0=vL M.fW.en p0∧s.t 1=vL M.fW.en p1∧s.t 5=vI v5)∧nX p0 p1 m v5=some r
 have e1:=@nX.eq_2
 unfold aA7 at h
 exact sgo 27 [.tmp 4] Tryz.func196
instance:bA 196 (type_of% @aW4):=⟨@aW4⟩
theorem c89 (p0 p1 r) (h:wU p0 p1=some r):Sc 89 [aX (M.Channel.en p0),aX (M.Channel.en p1)] [rB r]:=by
 unfold wU at h
 exact sgo 11 [.tmp 4] Tryz.func89
instance:bA 89 (type_of% @c89):=⟨@c89⟩
theorem aX3 (p0 p1 r) (h:xH p0 p1=some r):Sc 348 [aL enS p0,aL enS p1] [rB r]:=by
 have i1:=inv fun m s=>∃v5:Int,(s.t 0=vL enS p0∧s.t 1=vL enS p1∧s.t 5=vI v5)∧kO p0 p1 m v5=some r
 have e1:=@kO.eq_2
 unfold xH at h
 exact sgo 26 [.tmp 4] Tryz.func348
instance:bA 348 (type_of% @aX3):=⟨@aX3⟩
theorem aWS (p0 p1 r) (h:aBe p0 p1=some r):Sc 197 [aX (M.Site.en p0),aX (M.Site.en p1)] [rB r]:=by
 unfold aBe at h
 exact sgo 26 [.tmp 4] Tryz.func197
instance:bA 197 (type_of% @aWS):=⟨@aWS⟩
theorem c90 (p0 p1 r) (h:aBL p0 p1=some r):Sc 90 [aL M.Site.en p0,aL M.Site.en p1] [rB r]:=by
 have i1:=inv fun m s=>∃v5:Int,(s.t 0=vL M.Site.en p0∧s.t 1=vL M.Site.en p1∧s.t 5=vI v5)∧nP p0 p1 m v5=some r
 have e1:=@nP.eq_2
 unfold aBL at h
 exact sgo 27 [.tmp 4] Tryz.func90
instance:bA 90 (type_of% @c90):=⟨@c90⟩
theorem aWd (p0 p1 r) (h:wE p0 p1=some r):Sc 447 [aX (M.aK.en p0),aX (M.aK.en p1)] [rB r]:=by
 unfold wE at h
 exact sgo 15 [.tmp 4] Tryz.func447
instance:bA 447 (type_of% @aWd):=⟨@aWd⟩
theorem aYO (p0 p1 r) (h:tJ p0 p1=some r):Sc 350 [aL M.aK.en p0,aL M.aK.en p1] [rB r]:=by
 have i1:=inv fun m s=>∃v5:Int,(s.t 0=vL M.aK.en p0∧s.t 1=vL M.aK.en p1∧s.t 5=vI v5)∧jX p0 p1 m v5=some r
 have e1:=@jX.eq_2
 unfold tJ at h
 exact sgo 27 [.tmp 4] Tryz.func350
instance:bA 350 (type_of% @aYO):=⟨@aYO⟩
theorem aXX (p0 p1 r) (h:zE p0 p1=some r):Sc 198 [aX (M.Server.en p0),aX (M.Server.en p1)] [rB r]:=by
 unfold zE at h
 exact sgo 23 [.tmp 4] Tryz.func198
instance:bA 198 (type_of% @aXX):=⟨@aXX⟩
theorem c91 (p0 p1 r) (h:xF p0 p1=some r):Sc 91 [aL M.Server.en p0,aL M.Server.en p1] [rB r]:=by
 have i1:=inv fun m s=>∃v5:Int,(s.t 0=vL M.Server.en p0∧s.t 1=vL M.Server.en p1∧s.t 5=vI v5)∧kN p0 p1 m v5=some r
 have e1:=@kN.eq_2
 unfold xF at h
 exact sgo 27 [.tmp 4] Tryz.func91
instance:bA 91 (type_of% @c91):=⟨@c91⟩
theorem c25 (p0 p1 r) (h:nE p0 p1=some r):Sc 25 [aX (M.World.en p0),aX (M.World.en p1)] [rB r]:=by
 unfold nE at h
 exact sgo 61 [.tmp 4] Tryz.func25
instance:bA 25 (type_of% @c25):=⟨@c25⟩
end Go.Proofs.YtidhkhdnjonjfaaGreat.gen
