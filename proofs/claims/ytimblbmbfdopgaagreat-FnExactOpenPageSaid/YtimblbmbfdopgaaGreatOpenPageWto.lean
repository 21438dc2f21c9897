/-
  Helper text. No conditions.
-/
import Derived.Test.YtimblbmbfdopgaaGreatOpenPageTi
set_option linter.unusedVariables false
set_option linter.unusedSimpArgs false
namespace Go.Proofs.YtimblbmbfdopgaaGreat.gen
open Go Go.Sh
set_option maxRecDepth 20000
set_option maxHeartbeats 4000000
theorem aYO (p0 r) (h:lG p0=some r):Sc 498 [aX (M.Registration.en p0)] [(true,M.Registration.rs r)]:=by
 unfold lG at h
 exact sgo 17 [.cell 2 77] Tryz.func498
instance:bD 498 (type_of% @aYO):=⟨@aYO⟩
theorem aUK (p0 r) (h:xT p0=some r):Sc 572 [aL enB p0] [rW 5 1 enB r]:=by
 have i1:=inv fun m s=>∃v4:Int,∃r7:List Int,(s.t 0=vL enB p0∧s.t 3=vR 100007 1∧s.t 4=vI v4∧s.h 100007=(1,oW 5 1 enB r7))∧nM p0 m v4 r7=some r
 have e1:=@nM.eq_2
 unfold xT at h
 exact sgo 22 [.tmp 2] Tryz.func572
instance:bD 572 (type_of% @aUK):=⟨@aUK⟩
theorem aUl (p0 r) (h:tB p0=some r):Sc 641 [aX (M.Response.en p0)] [(true,M.Response.rs r)]:=by
 unfold tB at h
 exact sgo 21 [.cell 2 277] Tryz.func641
instance:bD 641 (type_of% @aUl):=⟨@aUl⟩
theorem aX3 (p0 r) (h:zE p0=some r):Sc 636 [aX (M.Cached.en p0)] [(true,M.Cached.rs r)]:=by
 unfold zE at h
 exact sgo 15 [.cell 2 361] Tryz.func636
instance:bD 636 (type_of% @aX3):=⟨@aX3⟩
theorem aXj (p0 r) (h:wU p0=some r):Sc 627 [aL M.Cached.en p0] [rW 361 7 M.Cached.en r]:=by
 have i1:=inv fun m s=>∃v4:Int,∃r7:List M.Cached,(s.t 0=vL M.Cached.en p0∧s.t 3=vR 100007 1∧s.t 4=vI v4∧s.h 100007=(1,oW 361 7 M.Cached.en r7))∧kG p0 m v4 r7=some r
 have e1:=@kG.eq_2
 unfold wU at h
 exact sgo 23 [.tmp 2] Tryz.func627
instance:bD 627 (type_of% @aXj):=⟨@aXj⟩
theorem aX0 (p0 r) (h:aAf p0=some r):Sc 607 [aX (M.Cache.en p0)] [(true,M.Cache.rs r)]:=by
 unfold aAf at h
 exact sgo 12 [.cell 2 354] Tryz.func607
instance:bD 607 (type_of% @aX0):=⟨@aX0⟩
theorem aVx (p0 r) (h:zN p0=some r):Sc 570 [aL M.Cache.en p0] [rW 354 2 M.Cache.en r]:=by
 have i1:=inv fun m s=>∃v4:Int,∃r7:List M.Cache,(s.t 0=vL M.Cache.en p0∧s.t 3=vR 100007 1∧s.t 4=vI v4∧s.h 100007=(1,oW 354 2 M.Cache.en r7))∧lY p0 m v4 r7=some r
 have e1:=@lY.eq_2
 unfold zN at h
 exact sgo 23 [.tmp 2] Tryz.func570
instance:bD 570 (type_of% @aVx):=⟨@aVx⟩
theorem aUL (p0 r) (h:tJ p0=some r):Sc 499 [aX (M.aO.en p0)] [(true,M.aO.rs r)]:=by
 unfold tJ at h
 exact sgo 9 [.cell 2 80] Tryz.func499
instance:bD 499 (type_of% @aUL):=⟨@aUL⟩
theorem aWk (p0 r) (h:aBU p0=some r):Sc 575 [aX (M.Key.en p0)] [(true,M.Key.rs r)]:=by
 unfold aBU at h
 exact sgo 14 [.cell 2 161] Tryz.func575
instance:bD 575 (type_of% @aWk):=⟨@aWk⟩
theorem aTo (p0 r) (h:aA1 p0=some r):Sc 637 [aX (M.Field.en p0)] [(true,M.Field.rs r)]:=by
 unfold aA1 at h
 exact sgo 11 [.cell 2 312] Tryz.func637
instance:bD 637 (type_of% @aTo):=⟨@aTo⟩
theorem aX5 (p0 r) (h:zZ p0=some r):Sc 629 [aL M.Field.en p0] [rW 312 2 M.Field.en r]:=by
 have i1:=inv fun m s=>∃v4:Int,∃r7:List M.Field,(s.t 0=vL M.Field.en p0∧s.t 3=vR 100007 1∧s.t 4=vI v4∧s.h 100007=(1,oW 312 2 M.Field.en r7))∧lL p0 m v4 r7=some r
 have e1:=@lL.eq_2
 unfold zZ at h
 exact sgo 23 [.tmp 2] Tryz.func629
instance:bD 629 (type_of% @aX5):=⟨@aX5⟩
theorem aUA (p0 r) (h:yZ p0=some r):Sc 611 [aX (M.aW.en p0)] [(true,M.aW.rs r)]:=by
 unfold yZ at h
 exact sgo 9 [.cell 2 154] Tryz.func611
instance:bD 611 (type_of% @aUA):=⟨@aUA⟩
theorem aVG (p0 r) (h:aBa p0=some r):Sc 574 [aX (M.Item.en p0)] [(true,M.Item.rs r)]:=by
 unfold aBa at h
 exact sgo 13 [.cell 2 310] Tryz.func574
instance:bD 574 (type_of% @aVG):=⟨@aVG⟩
theorem aWG (p0 r) (h:aAe p0=some r):Sc 502 [aL M.Item.en p0] [rW 310 4 M.Item.en r]:=by
 have i1:=inv fun m s=>∃v4:Int,∃r7:List M.Item,(s.t 0=vL M.Item.en p0∧s.t 3=vR 100007 1∧s.t 4=vI v4∧s.h 100007=(1,oW 310 4 M.Item.en r7))∧nP p0 m v4 r7=some r
 have e1:=@nP.eq_2
 unfold aAe at h
 exact sgo 23 [.tmp 2] Tryz.func502
instance:bD 502 (type_of% @aWG):=⟨@aWG⟩
theorem aXg (p0 r) (h:sA p0=some r):Sc 391 [aX (M.aH.en p0)] [(true,M.aH.rs r)]:=by
 unfold sA at h
 exact sgo 15 [.cell 2 89] Tryz.func391
instance:bD 391 (type_of% @aXg):=⟨@aXg⟩
theorem aXF (p0 r) (h:yS p0=some r):Sc 608 [aL M.aH.en p0] [rW 89 3 M.aH.en r]:=by
 have i1:=inv fun m s=>∃v4:Int,∃r7:List M.aH,(s.t 0=vL M.aH.en p0∧s.t 3=vR 100007 1∧s.t 4=vI v4∧s.h 100007=(1,oW 89 3 M.aH.en r7))∧lU p0 m v4 r7=some r
 have e1:=@lU.eq_2
 unfold yS at h
 exact sgo 23 [.tmp 2] Tryz.func608
instance:bD 608 (type_of% @aXF):=⟨@aXF⟩
theorem aUD (p0 r) (h:uK p0=some r):Sc 628 [aX (M.aE.en p0)] [(true,M.aE.rs r)]:=by
 unfold uK at h
 exact sgo 11 [.cell 2 375] Tryz.func628
instance:bD 628 (type_of% @aUD):=⟨@aUD⟩
theorem aXQ (p0 r) (h:pZ p0=some r):Sc 609 [aL M.aE.en p0] [rW 375 2 M.aE.en r]:=by
 have i1:=inv fun m s=>∃v4:Int,∃r7:List M.aE,(s.t 0=vL M.aE.en p0∧s.t 3=vR 100007 1∧s.t 4=vI v4∧s.h 100007=(1,oW 375 2 M.aE.en r7))∧iS p0 m v4 r7=some r
 have e1:=@iS.eq_2
 unfold pZ at h
 exact sgo 23 [.tmp 2] Tryz.func609
instance:bD 609 (type_of% @aXQ):=⟨@aXQ⟩
theorem aX1 (p0 r) (h:sH p0=some r):Sc 571 [aX (M.Database.en p0)] [(true,M.Database.rs r)]:=by
 unfold sH at h
 exact sgo 19 [.cell 2 84] Tryz.func571
instance:bD 571 (type_of% @aX1):=⟨@aX1⟩
theorem aUf (p0 r) (h:aCC p0=some r):Sc 500 [aX (M.bC.en p0)] [(true,M.bC.rs r)]:=by
 unfold aCC at h
 exact sgo 16 [.cell 2 86] Tryz.func500
instance:bD 500 (type_of% @aUf):=⟨@aUf⟩
theorem aWM (p0 r) (h:aAq p0=some r):Sc 504 [aX (M.aZ.en p0)] [(true,M.aZ.rs r)]:=by
 unfold aAq at h
 exact sgo 21 [.cell 2 387] Tryz.func504
instance:bD 504 (type_of% @aWM):=⟨@aWM⟩
theorem aXZ (p0 r) (h:tX p0=some r):Sc 393 [aL M.aZ.en p0] [rW 387 7 M.aZ.en r]:=by
 have i1:=inv fun m s=>∃v4:Int,∃r7:List M.aZ,(s.t 0=vL M.aZ.en p0∧s.t 3=vR 100007 1∧s.t 4=vI v4∧s.h 100007=(1,oW 387 7 M.aZ.en r7))∧lZ p0 m v4 r7=some r
 have e1:=@lZ.eq_2
 unfold tX at h
 exact sgo 23 [.tmp 2] Tryz.func393
instance:bD 393 (type_of% @aXZ):=⟨@aXZ⟩
theorem aVq (p0 r) (h:yM p0=some r):Sc 610 [aX (M.aR.en p0)] [(true,M.aR.rs r)]:=by
 unfold yM at h
 exact sgo 15 [.cell 2 92] Tryz.func610
instance:bD 610 (type_of% @aVq):=⟨@aVq⟩
theorem aVz (p0 r) (h:aB6 p0=some r):Sc 573 [aX (M.Sync.en p0)] [(true,M.Sync.rs r)]:=by
 unfold aB6 at h
 exact sgo 15 [.cell 2 94] Tryz.func573
instance:bD 573 (type_of% @aVz):=⟨@aVz⟩
theorem aWi (p0 r) (h:wV p0=some r):Sc 501 [aX (M.aD.en p0)] [(true,M.aD.rs r)]:=by
 unfold wV at h
 exact sgo 16 [.cell 2 96] Tryz.func501
instance:bD 501 (type_of% @aWi):=⟨@aWi⟩
theorem aXz (p0 r) (h:zO p0=some r):Sc 387 [aX (M.aC.en p0)] [(true,M.aC.rs r)]:=by
 unfold zO at h
 exact sgo 33 [.cell 2 98] Tryz.func387
instance:bD 387 (type_of% @aXz):=⟨@aXz⟩
theorem aX7 (p0 r) (h:xM p0=some r):Sc 243 [aL M.aC.en p0] [rW 98 24 M.aC.en r]:=by
 have i1:=inv fun m s=>∃v4:Int,∃r7:List M.aC,(s.t 0=vL M.aC.en p0∧s.t 3=vR 100007 1∧s.t 4=vI v4∧s.h 100007=(1,oW 98 24 M.aC.en r7))∧kT p0 m v4 r7=some r
 have e1:=@kT.eq_2
 unfold xM at h
 exact sgo 23 [.tmp 2] Tryz.func243
instance:bD 243 (type_of% @aX7):=⟨@aX7⟩
theorem c80 (p0 r) (h:wO p0=some r):Sc 80 [aX (M.aA.en p0)] [(true,M.aA.rs r)]:=by
 unfold wO at h
 exact sgo 9 [.cell 2 47] Tryz.func80
instance:bD 80 (type_of% @c80):=⟨@c80⟩
theorem aXB (p0 r) (h:yH p0=some r):Sc 248 [aX (M.aK.en p0)] [(true,M.aK.rs r)]:=by
 unfold yH at h
 exact sgo 11 [.cell 2 324] Tryz.func248
instance:bD 248 (type_of% @aXB):=⟨@aXB⟩
theorem c86 (p0 r) (h:wJ p0=some r):Sc 86 [aL M.aK.en p0] [rW 324 2 M.aK.en r]:=by
 have i1:=inv fun m s=>∃v4:Int,∃r7:List M.aK,(s.t 0=vL M.aK.en p0∧s.t 3=vR 100007 1∧s.t 4=vI v4∧s.h 100007=(1,oW 324 2 M.aK.en r7))∧kS p0 m v4 r7=some r
 have e1:=@kS.eq_2
 unfold wJ at h
 exact sgo 23 [.tmp 2] Tryz.func86
instance:bD 86 (type_of% @c86):=⟨@c86⟩
theorem aUw (p0 r) (h:aA2 p0=some r):Sc 215 [aX (M.Instr.en p0)] [(true,M.Instr.rs r)]:=by
 unfold aA2 at h
 exact sgo 17 [.cell 2 279] Tryz.func215
instance:bD 215 (type_of% @aUw):=⟨@aUw⟩
theorem c61 (p0 r) (h:jT p0=some r):Sc 61 [aL M.Instr.en p0] [rW 279 4 M.Instr.en r]:=by
 have i1:=inv fun m s=>∃v4:Int,∃r7:List M.Instr,(s.t 0=vL M.Instr.en p0∧s.t 3=vR 100007 1∧s.t 4=vI v4∧s.h 100007=(1,oW 279 4 M.Instr.en r7))∧lK p0 m v4 r7=some r
 have e1:=@lK.eq_2
 unfold jT at h
 exact sgo 23 [.tmp 2] Tryz.func61
instance:bD 61 (type_of% @c61):=⟨@c61⟩
theorem aWl (p0 r) (h:aBo p0=some r):Sc 249 [aL enI p0] [rW 3 1 enI r]:=by
 have i1:=inv fun m s=>∃v4:Int,∃r7:List Int,(s.t 0=vL enI p0∧s.t 3=vR 100007 1∧s.t 4=vI v4∧s.h 100007=(1,oW 3 1 enI r7))∧pB p0 m v4 r7=some r
 have e1:=@pB.eq_2
 unfold aBo at h
 exact sgo 22 [.tmp 2] Tryz.func249
instance:bD 249 (type_of% @aWl):=⟨@aWl⟩
theorem c87 (p0 r) (h:wF p0=some r):Sc 87 [aX (M.Machine.en p0)] [(true,M.Machine.rs r)]:=by
 unfold wF at h
 exact sgo 25 [.cell 2 65] Tryz.func87
instance:bD 87 (type_of% @c87):=⟨@c87⟩
theorem c14 (p0 r) (h:aBd p0=some r):Sc 14 [aX (M.bH.en p0)] [(true,M.bH.rs r)]:=by
 unfold aBd at h
 exact sgo 25 [.cell 2 67] Tryz.func14
instance:bD 14 (type_of% @c14):=⟨@c14⟩
theorem c81 (p0 r) (h:aAn p0=some r):Sc 81 [aL M.bH.en p0] [rW 67 11 M.bH.en r]:=by
 have i1:=inv fun m s=>∃v4:Int,∃r7:List M.bH,(s.t 0=vL M.bH.en p0∧s.t 3=vR 100007 1∧s.t 4=vI v4∧s.h 100007=(1,oW 67 11 M.bH.en r7))∧nJ p0 m v4 r7=some r
 have e1:=@nJ.eq_2
 unfold aAn at h
 exact sgo 23 [.tmp 2] Tryz.func81
instance:bD 81 (type_of% @c81):=⟨@c81⟩
theorem aVB (p0 r) (h:aBq p0=some r):Sc 388 [aX (M.cJ.en p0)] [(true,M.cJ.rs r)]:=by
 unfold aBq at h
 exact sgo 17 [.cell 2 249] Tryz.func388
instance:bD 388 (type_of% @aVB):=⟨@aVB⟩
theorem aXw (p0 r) (h:aAg p0=some r):Sc 244 [aL M.cJ.en p0] [rW 249 4 M.cJ.en r]:=by
 have i1:=inv fun m s=>∃v4:Int,∃r7:List M.cJ,(s.t 0=vL M.cJ.en p0∧s.t 3=vR 100007 1∧s.t 4=vI v4∧s.h 100007=(1,oW 249 4 M.cJ.en r7))∧nA p0 m v4 r7=some r
 have e1:=@nA.eq_2
 unfold aAg at h
 exact sgo 23 [.tmp 2] Tryz.func244
instance:bD 244 (type_of% @aXw):=⟨@aXw⟩
theorem c82 (p0 r) (h:pT p0=some r):Sc 82 [aX (M.aQ.en p0)] [(true,M.aQ.rs r)]:=by
 unfold pT at h
 exact sgo 9 [.cell 2 51] Tryz.func82
instance:bD 82 (type_of% @c82):=⟨@c82⟩
theorem aUz (p0 r) (h:aB0 p0=some r):Sc 389 [aX (M.eU.en p0)] [(true,M.eU.rs r)]:=by
 unfold aB0 at h
 exact sgo 14 [.cell 2 252] Tryz.func389
instance:bD 389 (type_of% @aUz):=⟨@aUz⟩
theorem aYQ (p0 r) (h:aAY p0=some r):Sc 245 [aL M.eU.en p0] [rW 252 3 M.eU.en r]:=by
 have i1:=inv fun m s=>∃v4:Int,∃r7:List M.eU,(s.t 0=vL M.eU.en p0∧s.t 3=vR 100007 1∧s.t 4=vI v4∧s.h 100007=(1,oW 252 3 M.eU.en r7))∧nC p0 m v4 r7=some r
 have e1:=@nC.eq_2
 unfold aAY at h
 exact sgo 23 [.tmp 2] Tryz.func245
instance:bD 245 (type_of% @aYQ):=⟨@aYQ⟩
theorem c83 (p0 r) (h:wA p0=some r):Sc 83 [aX (M.Channel.en p0)] [(true,M.Channel.rs r)]:=by
 unfold wA at h
 exact sgo 9 [.cell 2 54] Tryz.func83
instance:bD 83 (type_of% @c83):=⟨@c83⟩
theorem aXD (p0 r) (h:xH p0=some r):Sc 390 [aL enS p0] [rW 9 1 enS r]:=by
 have i1:=inv fun m s=>∃v4:Int,∃r7:List ByteArray,(s.t 0=vL enS p0∧s.t 3=vR 100007 1∧s.t 4=vI v4∧s.h 100007=(1,oW 9 1 enS r7))∧kI p0 m v4 r7=some r
 have e1:=@kI.eq_2
 unfold xH at h
 exact sgo 22 [.tmp 2] Tryz.func390
instance:bD 390 (type_of% @aXD):=⟨@aXD⟩
theorem aVP (p0 r) (h:aBw p0=some r):Sc 246 [aX (M.Site.en p0)] [(true,M.Site.rs r)]:=by
 unfold aBw at h
 exact sgo 18 [.cell 2 131] Tryz.func246
instance:bD 246 (type_of% @aVP):=⟨@aVP⟩
theorem c84 (p0 r) (h:aAu p0=some r):Sc 84 [aL M.Site.en p0] [rW 131 4 M.Site.en r]:=by
 have i1:=inv fun m s=>∃v4:Int,∃r7:List M.Site,(s.t 0=vL M.Site.en p0∧s.t 3=vR 100007 1∧s.t 4=vI v4∧s.h 100007=(1,oW 131 4 M.Site.en r7))∧nK p0 m v4 r7=some r
 have e1:=@nK.eq_2
 unfold aAu at h
 exact sgo 23 [.tmp 2] Tryz.func84
instance:bD 84 (type_of% @c84):=⟨@c84⟩
theorem aTy (p0 r) (h:xB p0=some r):Sc 503 [aX (M.aM.en p0)] [(true,M.aM.rs r)]:=by
 unfold xB at h
 exact sgo 11 [.cell 2 385] Tryz.func503
instance:bD 503 (type_of% @aTy):=⟨@aTy⟩
theorem aWu (p0 r) (h:uA p0=some r):Sc 392 [aL M.aM.en p0] [rW 385 2 M.aM.en r]:=by
 have i1:=inv fun m s=>∃v4:Int,∃r7:List M.aM,(s.t 0=vL M.aM.en p0∧s.t 3=vR 100007 1∧s.t 4=vI v4∧s.h 100007=(1,oW 385 2 M.aM.en r7))∧jW p0 m v4 r7=some r
 have e1:=@jW.eq_2
 unfold uA at h
 exact sgo 23 [.tmp 2] Tryz.func392
instance:bD 392 (type_of% @aWu):=⟨@aWu⟩
theorem aVU (p0 r) (h:zW p0=some r):Sc 247 [aX (M.Server.en p0)] [(true,M.Server.rs r)]:=by
 unfold zW at h
 exact sgo 17 [.cell 2 234] Tryz.func247
instance:bD 247 (type_of% @aVU):=⟨@aVU⟩
theorem c85 (p0 r) (h:wK p0=some r):Sc 85 [aL M.Server.en p0] [rW 234 5 M.Server.en r]:=by
 have i1:=inv fun m s=>∃v4:Int,∃r7:List M.Server,(s.t 0=vL M.Server.en p0∧s.t 3=vR 100007 1∧s.t 4=vI v4∧s.h 100007=(1,oW 234 5 M.Server.en r7))∧kO p0 m v4 r7=some r
 have e1:=@kO.eq_2
 unfold wK at h
 exact sgo 23 [.tmp 2] Tryz.func85
instance:bD 85 (type_of% @c85):=⟨@c85⟩
theorem c13 (p0 r) (h:mZ p0=some r):Sc 13 [aX (M.World.en p0)] [(true,M.World.rs r)]:=by
 unfold mZ at h
 exact sgo 41 [.cell 2 58] Tryz.func13
instance:bD 13 (type_of% @c13):=⟨@c13⟩
end Go.Proofs.YtimblbmbfdopgaaGreat.gen
