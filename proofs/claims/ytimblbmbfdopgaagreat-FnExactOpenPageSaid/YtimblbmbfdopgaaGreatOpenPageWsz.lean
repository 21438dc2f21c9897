/-
  Helper text. No conditions.
-/
import Derived.Test.YtimblbmbfdopgaaGreatOpenPageTi
set_option linter.unusedVariables false
set_option linter.unusedSimpArgs false
namespace Go.Proofs.YtimblbmbfdopgaaGreat.gen
open Go Go.Sh
set_option maxRecDepth 20000
set_option maxHeartbeats 4000000
theorem aYV (p0 p1 r) (h:lE p0 p1=some r):Sc 485 [aX (M.Registration.en p0),aI p1] [rI r]:=by
 unfold lE at h
 exact sgo 13 [.tmp 4] Tryz.func485
instance:bD 485 (type_of% @aYV):=⟨@aYV⟩
theorem aYG (p0 p1 r) (h:xR p0 p1=some r):Sc 559 [aL enB p0,aI p1] [rI r]:=by
 unfold xR at h
 exact sgo 12 [.tmp 4] Tryz.func559
instance:bD 559 (type_of% @aYG):=⟨@aYG⟩
theorem aV4 (p0 p1 r) (h:tO p0 p1=some r):Sc 640 [aX (M.Response.en p0),aI p1] [rI r]:=by
 unfold tO at h
 exact sgo 12 [.tmp 4] Tryz.func640
instance:bD 640 (type_of% @aV4):=⟨@aV4⟩
theorem aW3 (p0 p1 r) (h:yO p0 p1=some r):Sc 634 [aX (M.Cached.en p0),aI p1] [rI r]:=by
 unfold yO at h
 exact sgo 26 [.tmp 4] Tryz.func634
instance:bD 634 (type_of% @aW3):=⟨@aW3⟩
theorem aTt (p0 p1 r) (h:wE p0 p1=some r):Sc 624 [aL M.Cached.en p0,aI p1] [rI r]:=by
 have i1:=inv fun m s=>∃v1:Int,∃v5:Int,(s.t 0=vL M.Cached.en p0∧s.t 1=vI v1∧s.t 5=vI v5)∧uT p0 m v1 v5=some r
 have e1:=@uT.eq_2
 unfold wE at h
 exact sgo 27 [.tmp 4] Tryz.func624
instance:bD 624 (type_of% @aTt):=⟨@aTt⟩
theorem aYX (p0 p1 r) (h:aA0 p0 p1=some r):Sc 600 [aX (M.Cache.en p0),aI p1] [rI r]:=by
 unfold aA0 at h
 exact sgo 12 [.tmp 4] Tryz.func600
instance:bD 600 (type_of% @aYX):=⟨@aYX⟩
theorem aV7 (p0 p1 r) (h:zV p0 p1=some r):Sc 557 [aL M.Cache.en p0,aI p1] [rI r]:=by
 have i1:=inv fun m s=>∃v1:Int,∃v5:Int,(s.t 0=vL M.Cache.en p0∧s.t 1=vI v1∧s.t 5=vI v5)∧yC p0 m v1 v5=some r
 have e1:=@yC.eq_2
 unfold zV at h
 exact sgo 27 [.tmp 4] Tryz.func557
instance:bD 557 (type_of% @aV7):=⟨@aV7⟩
theorem aUj (p0 p1 r) (h:uO p0 p1=some r):Sc 486 [aX (M.aO.en p0),aI p1] [rI r]:=by
 unfold uO at h
 exact sgo 12 [.tmp 4] Tryz.func486
instance:bD 486 (type_of% @aUj):=⟨@aUj⟩
theorem aWt (p0 p1 r) (h:aBX p0 p1=some r):Sc 562 [aX (M.Key.en p0),aI p1] [rI r]:=by
 unfold aBX at h
 exact sgo 13 [.tmp 4] Tryz.func562
instance:bD 562 (type_of% @aWt):=⟨@aWt⟩
theorem aUk (p0 p1 r) (h:aAs p0 p1=some r):Sc 635 [aX (M.Field.en p0),aI p1] [rI r]:=by
 unfold aAs at h
 exact sgo 13 [.tmp 4] Tryz.func635
instance:bD 635 (type_of% @aUk):=⟨@aUk⟩
theorem aWn (p0 p1 r) (h:yL p0 p1=some r):Sc 626 [aL M.Field.en p0,aI p1] [rI r]:=by
 have i1:=inv fun m s=>∃v1:Int,∃v5:Int,(s.t 0=vL M.Field.en p0∧s.t 1=vI v1∧s.t 5=vI v5)∧xY p0 m v1 v5=some r
 have e1:=@xY.eq_2
 unfold yL at h
 exact sgo 27 [.tmp 4] Tryz.func626
instance:bD 626 (type_of% @aWn):=⟨@aWn⟩
theorem aXG (p0 p1 r) (h:zU p0 p1=some r):Sc 604 [aX (M.aW.en p0),aI p1] [rI r]:=by
 unfold zU at h
 exact sgo 12 [.tmp 4] Tryz.func604
instance:bD 604 (type_of% @aXG):=⟨@aXG⟩
theorem aWB (p0 p1 r) (h:aB1 p0 p1=some r):Sc 561 [aX (M.Item.en p0),aI p1] [rI r]:=by
 unfold aB1 at h
 exact sgo 18 [.tmp 4] Tryz.func561
instance:bD 561 (type_of% @aWB):=⟨@aWB⟩
theorem aW0 (p0 p1 r) (h:aA7 p0 p1=some r):Sc 489 [aL M.Item.en p0,aI p1] [rI r]:=by
 have i1:=inv fun m s=>∃v1:Int,∃v5:Int,(s.t 0=vL M.Item.en p0∧s.t 1=vI v1∧s.t 5=vI v5)∧aAK p0 m v1 v5=some r
 have e1:=@aAK.eq_2
 unfold aA7 at h
 exact sgo 27 [.tmp 4] Tryz.func489
instance:bD 489 (type_of% @aW0):=⟨@aW0⟩
theorem aWZ (p0 p1 r) (h:rO p0 p1=some r):Sc 373 [aX (M.aH.en p0),aI p1] [rI r]:=by
 unfold rO at h
 exact sgo 19 [.tmp 4] Tryz.func373
instance:bD 373 (type_of% @aWZ):=⟨@aWZ⟩
theorem aYP (p0 p1 r) (h:zI p0 p1=some r):Sc 601 [aL M.aH.en p0,aI p1] [rI r]:=by
 have i1:=inv fun m s=>∃v1:Int,∃v5:Int,(s.t 0=vL M.aH.en p0∧s.t 1=vI v1∧s.t 5=vI v5)∧yD p0 m v1 v5=some r
 have e1:=@yD.eq_2
 unfold zI at h
 exact sgo 27 [.tmp 4] Tryz.func601
instance:bD 601 (type_of% @aYP):=⟨@aYP⟩
theorem aXd (p0 p1 r) (h:sL p0 p1=some r):Sc 625 [aX (M.aE.en p0),aI p1] [rI r]:=by
 unfold sL at h
 exact sgo 20 [.tmp 4] Tryz.func625
instance:bD 625 (type_of% @aXd):=⟨@aXd⟩
theorem aVX (p0 p1 r) (h:pQ p0 p1=some r):Sc 602 [aL M.aE.en p0,aI p1] [rI r]:=by
 have i1:=inv fun m s=>∃v1:Int,∃v5:Int,(s.t 0=vL M.aE.en p0∧s.t 1=vI v1∧s.t 5=vI v5)∧pH p0 m v1 v5=some r
 have e1:=@pH.eq_2
 unfold pQ at h
 exact sgo 27 [.tmp 4] Tryz.func602
instance:bD 602 (type_of% @aVX):=⟨@aVX⟩
theorem aTd (p0 p1 r) (h:uI p0 p1=some r):Sc 558 [aX (M.Database.en p0),aI p1] [rI r]:=by
 unfold uI at h
 exact sgo 25 [.tmp 4] Tryz.func558
instance:bD 558 (type_of% @aTd):=⟨@aTd⟩
theorem aVg (p0 p1 r) (h:aBZ p0 p1=some r):Sc 487 [aX (M.bC.en p0),aI p1] [rI r]:=by
 unfold aBZ at h
 exact sgo 18 [.tmp 4] Tryz.func487
instance:bD 487 (type_of% @aVg):=⟨@aVg⟩
theorem aUQ (p0 p1 r) (h:aAy p0 p1=some r):Sc 490 [aX (M.aZ.en p0),aI p1] [rI r]:=by
 unfold aAy at h
 exact sgo 19 [.tmp 4] Tryz.func490
instance:bD 490 (type_of% @aUQ):=⟨@aUQ⟩
theorem aUp (p0 p1 r) (h:tR p0 p1=some r):Sc 375 [aL M.aZ.en p0,aI p1] [rI r]:=by
 have i1:=inv fun m s=>∃v1:Int,∃v5:Int,(s.t 0=vL M.aZ.en p0∧s.t 1=vI v1∧s.t 5=vI v5)∧xZ p0 m v1 v5=some r
 have e1:=@xZ.eq_2
 unfold tR at h
 exact sgo 27 [.tmp 4] Tryz.func375
instance:bD 375 (type_of% @aUp):=⟨@aUp⟩
theorem aYU (p0 p1 r) (h:yY p0 p1=some r):Sc 603 [aX (M.aR.en p0),aI p1] [rI r]:=by
 unfold yY at h
 exact sgo 12 [.tmp 4] Tryz.func603
instance:bD 603 (type_of% @aYU):=⟨@aYU⟩
theorem aW5 (p0 p1 r) (h:aCF p0 p1=some r):Sc 560 [aX (M.Sync.en p0),aI p1] [rI r]:=by
 unfold aCF at h
 exact sgo 12 [.tmp 4] Tryz.func560
instance:bD 560 (type_of% @aW5):=⟨@aW5⟩
theorem aWb (p0 p1 r) (h:xG p0 p1=some r):Sc 488 [aX (M.aD.en p0),aI p1] [rI r]:=by
 unfold xG at h
 exact sgo 18 [.tmp 4] Tryz.func488
instance:bD 488 (type_of% @aWb):=⟨@aWb⟩
theorem aYa (p0 p1 r) (h:zX p0 p1=some r):Sc 370 [aX (M.aC.en p0),aI p1] [rI r]:=by
 unfold zX at h
 exact sgo 44 [.tmp 4] Tryz.func370
instance:bD 370 (type_of% @aYa):=⟨@aYa⟩
theorem aTz (p0 p1 r) (h:wH p0 p1=some r):Sc 223 [aL M.aC.en p0,aI p1] [rI r]:=by
 have i1:=inv fun m s=>∃v1:Int,∃v5:Int,(s.t 0=vL M.aC.en p0∧s.t 1=vI v1∧s.t 5=vI v5)∧vK p0 m v1 v5=some r
 have e1:=@vK.eq_2
 unfold wH at h
 exact sgo 27 [.tmp 4] Tryz.func223
instance:bD 223 (type_of% @aTz):=⟨@aTz⟩
theorem c65 (p0 p1 r) (h:vY p0 p1=some r):Sc 65 [aX (M.aA.en p0),aI p1] [rI r]:=by
 unfold vY at h
 exact sgo 12 [.tmp 4] Tryz.func65
instance:bD 65 (type_of% @c65):=⟨@c65⟩
theorem aYN (p0 p1 r) (h:yP p0 p1=some r):Sc 228 [aX (M.aK.en p0),aI p1] [rI r]:=by
 unfold yP at h
 exact sgo 13 [.tmp 4] Tryz.func228
instance:bD 228 (type_of% @aYN):=⟨@aYN⟩
theorem c71 (p0 p1 r) (h:wI p0 p1=some r):Sc 71 [aL M.aK.en p0,aI p1] [rI r]:=by
 have i1:=inv fun m s=>∃v1:Int,∃v5:Int,(s.t 0=vL M.aK.en p0∧s.t 1=vI v1∧s.t 5=vI v5)∧vJ p0 m v1 v5=some r
 have e1:=@vJ.eq_2
 unfold wI at h
 exact sgo 27 [.tmp 4] Tryz.func71
instance:bD 71 (type_of% @c71):=⟨@c71⟩
theorem aYL (p0 p1 r) (h:aAV p0 p1=some r):Sc 209 [aX (M.Instr.en p0),aI p1] [rI r]:=by
 unfold aAV at h
 exact sgo 13 [.tmp 4] Tryz.func209
instance:bD 209 (type_of% @aYL):=⟨@aYL⟩
theorem c59 (p0 p1 r) (h:tQ p0 p1=some r):Sc 59 [aL M.Instr.en p0,aI p1] [rI r]:=by
 have i1:=inv fun m s=>∃v1:Int,∃v5:Int,(s.t 0=vL M.Instr.en p0∧s.t 1=vI v1∧s.t 5=vI v5)∧yF p0 m v1 v5=some r
 have e1:=@yF.eq_2
 unfold tQ at h
 exact sgo 27 [.tmp 4] Tryz.func59
instance:bD 59 (type_of% @c59):=⟨@c59⟩
theorem aYK (p0 p1 r) (h:aB7 p0 p1=some r):Sc 229 [aL enI p0,aI p1] [rI r]:=by
 unfold aB7 at h
 exact sgo 12 [.tmp 4] Tryz.func229
instance:bD 229 (type_of% @aYK):=⟨@aYK⟩
theorem c72 (p0 p1 r) (h:xJ p0 p1=some r):Sc 72 [aX (M.Machine.en p0),aI p1] [rI r]:=by
 unfold xJ at h
 exact sgo 18 [.tmp 4] Tryz.func72
instance:bD 72 (type_of% @c72):=⟨@c72⟩
theorem c11 (p0 p1 r) (h:aB4 p0 p1=some r):Sc 11 [aX (M.bH.en p0),aI p1] [rI r]:=by
 unfold aB4 at h
 exact sgo 32 [.tmp 4] Tryz.func11
instance:bD 11 (type_of% @c11):=⟨@c11⟩
theorem c66 (p0 p1 r) (h:aAm p0 p1=some r):Sc 66 [aL M.bH.en p0,aI p1] [rI r]:=by
 have i1:=inv fun m s=>∃v1:Int,∃v5:Int,(s.t 0=vL M.bH.en p0∧s.t 1=vI v1∧s.t 5=vI v5)∧aAM p0 m v1 v5=some r
 have e1:=@aAM.eq_2
 unfold aAm at h
 exact sgo 27 [.tmp 4] Tryz.func66
instance:bD 66 (type_of% @c66):=⟨@c66⟩
theorem aVj (p0 p1 r) (h:aCG p0 p1=some r):Sc 371 [aX (M.cJ.en p0),aI p1] [rI r]:=by
 unfold aCG at h
 exact sgo 13 [.tmp 4] Tryz.func371
instance:bD 371 (type_of% @aVj):=⟨@aVj⟩
theorem aVY (p0 p1 r) (h:aAh p0 p1=some r):Sc 224 [aL M.cJ.en p0,aI p1] [rI r]:=by
 have i1:=inv fun m s=>∃v1:Int,∃v5:Int,(s.t 0=vL M.cJ.en p0∧s.t 1=vI v1∧s.t 5=vI v5)∧aAJ p0 m v1 v5=some r
 have e1:=@aAJ.eq_2
 unfold aAh at h
 exact sgo 27 [.tmp 4] Tryz.func224
instance:bD 224 (type_of% @aVY):=⟨@aVY⟩
theorem c67 (p0 p1 r) (h:pS p0 p1=some r):Sc 67 [aX (M.aQ.en p0),aI p1] [rI r]:=by
 unfold pS at h
 exact sgo 12 [.tmp 4] Tryz.func67
instance:bD 67 (type_of% @c67):=⟨@c67⟩
theorem aU6 (p0 p1 r) (h:aAt p0 p1=some r):Sc 225 [aL M.eU.en p0,aI p1] [rI r]:=by
 unfold aAt at h
 exact sgo 12 [.tmp 4] Tryz.func225
instance:bD 225 (type_of% @aU6):=⟨@aU6⟩
theorem c68 (p0 p1 r) (h:xE p0 p1=some r):Sc 68 [aX (M.Channel.en p0),aI p1] [rI r]:=by
 unfold xE at h
 exact sgo 12 [.tmp 4] Tryz.func68
instance:bD 68 (type_of% @c68):=⟨@c68⟩
theorem aWj (p0 p1 r) (h:vN p0 p1=some r):Sc 372 [aL enS p0,aI p1] [rI r]:=by
 have i1:=inv fun m s=>∃v1:Int,∃v5:Int,(s.t 0=vL enS p0∧s.t 1=vI v1∧s.t 5=vI v5)∧vH p0 m v1 v5=some r
 have e1:=@vH.eq_2
 unfold vN at h
 exact sgo 28 [.tmp 4] Tryz.func372
instance:bD 372 (type_of% @aWj):=⟨@aWj⟩
theorem aUs (p0 p1 r) (h:aBh p0 p1=some r):Sc 226 [aX (M.Site.en p0),aI p1] [rI r]:=by
 unfold aBh at h
 exact sgo 19 [.tmp 4] Tryz.func226
instance:bD 226 (type_of% @aUs):=⟨@aUs⟩
theorem c69 (p0 p1 r) (h:aBB p0 p1=some r):Sc 69 [aL M.Site.en p0,aI p1] [rI r]:=by
 have i1:=inv fun m s=>∃v1:Int,∃v5:Int,(s.t 0=vL M.Site.en p0∧s.t 1=vI v1∧s.t 5=vI v5)∧aAI p0 m v1 v5=some r
 have e1:=@aAI.eq_2
 unfold aBB at h
 exact sgo 27 [.tmp 4] Tryz.func69
instance:bD 69 (type_of% @c69):=⟨@c69⟩
theorem aT1 (p0 p1 r) (h:tM p0 p1=some r):Sc 374 [aL M.aM.en p0,aI p1] [rI r]:=by
 unfold tM at h
 exact sgo 12 [.tmp 4] Tryz.func374
instance:bD 374 (type_of% @aT1):=⟨@aT1⟩
theorem aT0 (p0 p1 r) (h:yJ p0 p1=some r):Sc 227 [aX (M.Server.en p0),aI p1] [rI r]:=by
 unfold yJ at h
 exact sgo 24 [.tmp 4] Tryz.func227
instance:bD 227 (type_of% @aT0):=⟨@aT0⟩
theorem c70 (p0 p1 r) (h:xO p0 p1=some r):Sc 70 [aL M.Server.en p0,aI p1] [rI r]:=by
 have i1:=inv fun m s=>∃v1:Int,∃v5:Int,(s.t 0=vL M.Server.en p0∧s.t 1=vI v1∧s.t 5=vI v5)∧uU p0 m v1 v5=some r
 have e1:=@uU.eq_2
 unfold xO at h
 exact sgo 27 [.tmp 4] Tryz.func70
instance:bD 70 (type_of% @c70):=⟨@c70⟩
theorem c10 (p0 p1 r) (h:aAo p0 p1=some r):Sc 10 [aX (M.World.en p0),aI p1] [rI r]:=by
 unfold aAo at h
 exact sgo 42 [.tmp 4] Tryz.func10
instance:bD 10 (type_of% @c10):=⟨@c10⟩
end Go.Proofs.YtimblbmbfdopgaaGreat.gen
