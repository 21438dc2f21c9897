/-
  Helper text. No conditions.
-/
import Derived.Test.YtimblbmbfdopgaaGreatOpenPageTi
set_option linter.unusedVariables false
set_option linter.unusedSimpArgs false
namespace Go.Proofs.YtimblbmbfdopgaaGreat.gen
open Go Go.Sh
set_option maxRecDepth 20000
set_option maxHeartbeats 4000000
theorem aXr (p0 p1 r) (h:lH p0 p1=some r):Sc 511 [aX (M.Registration.en p0),aX (M.Registration.en p1)] [rB r]:=by
 unfold lH at h
 exact sgo 25 [.tmp 4] Tryz.func511
instance:bD 511 (type_of% @aXr):=⟨@aXr⟩
theorem aXI (p0 p1 r) (h:xU p0 p1=some r):Sc 583 [aL enB p0,aL enB p1] [rB r]:=by
 have i1:=inv fun m s=>∃v5:Int,(s.t 0=vL enB p0∧s.t 1=vL enB p1∧s.t 5=vI v5)∧nG p0 p1 m v5=some r
 have e1:=@nG.eq_2
 unfold xU at h
 exact sgo 26 [.tmp 4] Tryz.func583
instance:bD 583 (type_of% @aXI):=⟨@aXI⟩
theorem aW2 (p0 p1 r) (h:tZ p0 p1=some r):Sc 642 [aX (M.Response.en p0),aX (M.Response.en p1)] [rB r]:=by
 unfold tZ at h
 exact sgo 31 [.tmp 4] Tryz.func642
instance:bD 642 (type_of% @aW2):=⟨@aW2⟩
theorem aWr (p0 p1 r) (h:zF p0 p1=some r):Sc 638 [aX (M.Cached.en p0),aX (M.Cached.en p1)] [rB r]:=by
 unfold zF at h
 exact sgo 21 [.tmp 4] Tryz.func638
instance:bD 638 (type_of% @aWr):=⟨@aWr⟩
theorem aT4 (p0 p1 r) (h:wN p0 p1=some r):Sc 630 [aL M.Cached.en p0,aL M.Cached.en p1] [rB r]:=by
 have i1:=inv fun m s=>∃v5:Int,(s.t 0=vL M.Cached.en p0∧s.t 1=vL M.Cached.en p1∧s.t 5=vI v5)∧kM p0 p1 m v5=some r
 have e1:=@kM.eq_2
 unfold wN at h
 exact sgo 27 [.tmp 4] Tryz.func630
instance:bD 630 (type_of% @aT4):=⟨@aT4⟩
theorem aVW (p0 p1 r) (h:aA3 p0 p1=some r):Sc 615 [aX (M.Cache.en p0),aX (M.Cache.en p1)] [rB r]:=by
 unfold aA3 at h
 exact sgo 16 [.tmp 4] Tryz.func615
instance:bD 615 (type_of% @aVW):=⟨@aVW⟩
theorem aWE (p0 p1 r) (h:zM p0 p1=some r):Sc 581 [aL M.Cache.en p0,aL M.Cache.en p1] [rB r]:=by
 have i1:=inv fun m s=>∃v5:Int,(s.t 0=vL M.Cache.en p0∧s.t 1=vL M.Cache.en p1∧s.t 5=vI v5)∧lT p0 p1 m v5=some r
 have e1:=@lT.eq_2
 unfold zM at h
 exact sgo 27 [.tmp 4] Tryz.func581
instance:bD 581 (type_of% @aWE):=⟨@aWE⟩
theorem aXy (p0 p1 r) (h:tH p0 p1=some r):Sc 512 [aX (M.aO.en p0),aX (M.aO.en p1)] [rB r]:=by
 unfold tH at h
 exact sgo 11 [.tmp 4] Tryz.func512
instance:bD 512 (type_of% @aXy):=⟨@aXy⟩
theorem aVT (p0 p1 r) (h:aBV p0 p1=some r):Sc 586 [aX (M.Key.en p0),aX (M.Key.en p1)] [rB r]:=by
 unfold aBV at h
 exact sgo 20 [.tmp 4] Tryz.func586
instance:bD 586 (type_of% @aVT):=⟨@aVT⟩
theorem aW8 (p0 p1 r) (h:aAW p0 p1=some r):Sc 639 [aX (M.Field.en p0),aX (M.Field.en p1)] [rB r]:=by
 unfold aAW at h
 exact sgo 15 [.tmp 4] Tryz.func639
instance:bD 639 (type_of% @aW8):=⟨@aW8⟩
theorem aVV (p0 p1 r) (h:zP p0 p1=some r):Sc 632 [aL M.Field.en p0,aL M.Field.en p1] [rB r]:=by
 have i1:=inv fun m s=>∃v5:Int,(s.t 0=vL M.Field.en p0∧s.t 1=vL M.Field.en p1∧s.t 5=vI v5)∧lO p0 p1 m v5=some r
 have e1:=@lO.eq_2
 unfold zP at h
 exact sgo 27 [.tmp 4] Tryz.func632
instance:bD 632 (type_of% @aVV):=⟨@aVV⟩
theorem aWz (p0 p1 r) (h:zQ p0 p1=some r):Sc 619 [aX (M.aW.en p0),aX (M.aW.en p1)] [rB r]:=by
 unfold zQ at h
 exact sgo 11 [.tmp 4] Tryz.func619
instance:bD 619 (type_of% @aWz):=⟨@aWz⟩
theorem aVa (p0 p1 r) (h:aBf p0 p1=some r):Sc 585 [aX (M.Item.en p0),aX (M.Item.en p1)] [rB r]:=by
 unfold aBf at h
 exact sgo 17 [.tmp 4] Tryz.func585
instance:bD 585 (type_of% @aVa):=⟨@aVa⟩
theorem aYY (p0 p1 r) (h:aA6 p0 p1=some r):Sc 515 [aL M.Item.en p0,aL M.Item.en p1] [rB r]:=by
 have i1:=inv fun m s=>∃v5:Int,(s.t 0=vL M.Item.en p0∧s.t 1=vL M.Item.en p1∧s.t 5=vI v5)∧nD p0 p1 m v5=some r
 have e1:=@nD.eq_2
 unfold aA6 at h
 exact sgo 27 [.tmp 4] Tryz.func515
instance:bD 515 (type_of% @aYY):=⟨@aYY⟩
theorem aVi (p0 p1 r) (h:rZ p0 p1=some r):Sc 417 [aX (M.aH.en p0),aX (M.aH.en p1)] [rB r]:=by
 unfold rZ at h
 exact sgo 21 [.tmp 4] Tryz.func417
instance:bD 417 (type_of% @aVi):=⟨@aVi⟩
theorem aYE (p0 p1 r) (h:yK p0 p1=some r):Sc 616 [aL M.aH.en p0,aL M.aH.en p1] [rB r]:=by
 have i1:=inv fun m s=>∃v5:Int,(s.t 0=vL M.aH.en p0∧s.t 1=vL M.aH.en p1∧s.t 5=vI v5)∧lM p0 p1 m v5=some r
 have e1:=@lM.eq_2
 unfold yK at h
 exact sgo 27 [.tmp 4] Tryz.func616
instance:bD 616 (type_of% @aYE):=⟨@aYE⟩
theorem aT2 (p0 p1 r) (h:uE p0 p1=some r):Sc 631 [aX (M.aE.en p0),aX (M.aE.en p1)] [rB r]:=by
 unfold uE at h
 exact sgo 15 [.tmp 4] Tryz.func631
instance:bD 631 (type_of% @aT2):=⟨@aT2⟩
theorem aVQ (p0 p1 r) (h:pU p0 p1=some r):Sc 617 [aL M.aE.en p0,aL M.aE.en p1] [rB r]:=by
 have i1:=inv fun m s=>∃v5:Int,(s.t 0=vL M.aE.en p0∧s.t 1=vL M.aE.en p1∧s.t 5=vI v5)∧iU p0 p1 m v5=some r
 have e1:=@iU.eq_2
 unfold pU at h
 exact sgo 27 [.tmp 4] Tryz.func617
instance:bD 617 (type_of% @aVQ):=⟨@aVQ⟩
theorem aWK (p0 p1 r) (h:uL p0 p1=some r):Sc 582 [aX (M.Database.en p0),aX (M.Database.en p1)] [rB r]:=by
 unfold uL at h
 exact sgo 27 [.tmp 4] Tryz.func582
instance:bD 582 (type_of% @aWK):=⟨@aWK⟩
theorem aT7 (p0 p1 r) (h:aB2 p0 p1=some r):Sc 513 [aX (M.bC.en p0),aX (M.bC.en p1)] [rB r]:=by
 unfold aB2 at h
 exact sgo 22 [.tmp 4] Tryz.func513
instance:bD 513 (type_of% @aT7):=⟨@aT7⟩
theorem aT5 (p0 p1 r) (h:aAb p0 p1=some r):Sc 517 [aX (M.aZ.en p0),aX (M.aZ.en p1)] [rB r]:=by
 unfold aAb at h
 exact sgo 31 [.tmp 4] Tryz.func517
instance:bD 517 (type_of% @aT5):=⟨@aT5⟩
theorem aVb (p0 p1 r) (h:uN p0 p1=some r):Sc 419 [aL M.aZ.en p0,aL M.aZ.en p1] [rB r]:=by
 have i1:=inv fun m s=>∃v5:Int,(s.t 0=vL M.aZ.en p0∧s.t 1=vL M.aZ.en p1∧s.t 5=vI v5)∧lX p0 p1 m v5=some r
 have e1:=@lX.eq_2
 unfold uN at h
 exact sgo 27 [.tmp 4] Tryz.func419
instance:bD 419 (type_of% @aVb):=⟨@aVb⟩
theorem aTi (p0 p1 r) (h:zT p0 p1=some r):Sc 618 [aX (M.aR.en p0),aX (M.aR.en p1)] [rB r]:=by
 unfold zT at h
 exact sgo 21 [.tmp 4] Tryz.func618
instance:bD 618 (type_of% @aTi):=⟨@aTi⟩
theorem aWR (p0 p1 r) (h:aBk p0 p1=some r):Sc 584 [aX (M.Sync.en p0),aX (M.Sync.en p1)] [rB r]:=by
 unfold aBk at h
 exact sgo 21 [.tmp 4] Tryz.func584
instance:bD 584 (type_of% @aWR):=⟨@aWR⟩
theorem aUe (p0 p1 r) (h:wS p0 p1=some r):Sc 514 [aX (M.aD.en p0),aX (M.aD.en p1)] [rB r]:=by
 unfold wS at h
 exact sgo 22 [.tmp 4] Tryz.func514
instance:bD 514 (type_of% @aUe):=⟨@aUe⟩
theorem aXe (p0 p1 r) (h:yT p0 p1=some r):Sc 413 [aX (M.aC.en p0),aX (M.aC.en p1)] [rB r]:=by
 unfold yT at h
 exact sgo 49 [.tmp 4] Tryz.func413
instance:bD 413 (type_of% @aXe):=⟨@aXe⟩
theorem aWV (p0 p1 r) (h:xD p0 p1=some r):Sc 268 [aL M.aC.en p0,aL M.aC.en p1] [rB r]:=by
 have i1:=inv fun m s=>∃v5:Int,(s.t 0=vL M.aC.en p0∧s.t 1=vL M.aC.en p1∧s.t 5=vI v5)∧kE p0 p1 m v5=some r
 have e1:=@kE.eq_2
 unfold xD at h
 exact sgo 27 [.tmp 4] Tryz.func268
instance:bD 268 (type_of% @aWV):=⟨@aWV⟩
theorem c95 (p0 p1 r) (h:xC p0 p1=some r):Sc 95 [aX (M.aA.en p0),aX (M.aA.en p1)] [rB r]:=by
 unfold xC at h
 exact sgo 11 [.tmp 4] Tryz.func95
instance:bD 95 (type_of% @c95):=⟨@c95⟩
theorem aTu (p0 p1 r) (h:yI p0 p1=some r):Sc 273 [aX (M.aK.en p0),aX (M.aK.en p1)] [rB r]:=by
 unfold yI at h
 exact sgo 15 [.tmp 4] Tryz.func273
instance:bD 273 (type_of% @aTu):=⟨@aTu⟩
theorem aUI (p0 p1 r) (h:xF p0 p1=some r):Sc 101 [aL M.aK.en p0,aL M.aK.en p1] [rB r]:=by
 have i1:=inv fun m s=>∃v5:Int,(s.t 0=vL M.aK.en p0∧s.t 1=vL M.aK.en p1∧s.t 5=vI v5)∧kR p0 p1 m v5=some r
 have e1:=@kR.eq_2
 unfold xF at h
 exact sgo 27 [.tmp 4] Tryz.func101
instance:bD 101 (type_of% @aUI):=⟨@aUI⟩
theorem aXV (p0 p1 r) (h:aAU p0 p1=some r):Sc 221 [aX (M.Instr.en p0),aX (M.Instr.en p1)] [rB r]:=by
 unfold aAU at h
 exact sgo 25 [.tmp 4] Tryz.func221
instance:bD 221 (type_of% @aXV):=⟨@aXV⟩
theorem c63 (p0 p1 r) (h:tP p0 p1=some r):Sc 63 [aL M.Instr.en p0,aL M.Instr.en p1] [rB r]:=by
 have i1:=inv fun m s=>∃v5:Int,(s.t 0=vL M.Instr.en p0∧s.t 1=vL M.Instr.en p1∧s.t 5=vI v5)∧lR p0 p1 m v5=some r
 have e1:=@lR.eq_2
 unfold tP at h
 exact sgo 27 [.tmp 4] Tryz.func63
instance:bD 63 (type_of% @c63):=⟨@c63⟩
theorem aUi (p0 p1 r) (h:aB3 p0 p1=some r):Sc 274 [aL enI p0,aL enI p1] [rB r]:=by
 have i1:=inv fun m s=>∃v5:Int,(s.t 0=vL enI p0∧s.t 1=vL enI p1∧s.t 5=vI v5)∧oP p0 p1 m v5=some r
 have e1:=@oP.eq_2
 unfold aB3 at h
 exact sgo 26 [.tmp 4] Tryz.func274
instance:bD 274 (type_of% @aUi):=⟨@aUi⟩
theorem aVe (p0 p1 r) (h:vQ p0 p1=some r):Sc 102 [aX (M.Machine.en p0),aX (M.Machine.en p1)] [rB r]:=by
 unfold vQ at h
 exact sgo 37 [.tmp 4] Tryz.func102
instance:bD 102 (type_of% @aVe):=⟨@aVe⟩
theorem c17 (p0 p1 r) (h:aBs p0 p1=some r):Sc 17 [aX (M.bH.en p0),aX (M.bH.en p1)] [rB r]:=by
 unfold aBs at h
 exact sgo 37 [.tmp 4] Tryz.func17
instance:bD 17 (type_of% @c17):=⟨@c17⟩
theorem c96 (p0 p1 r) (h:aAr p0 p1=some r):Sc 96 [aL M.bH.en p0,aL M.bH.en p1] [rB r]:=by
 have i1:=inv fun m s=>∃v5:Int,(s.t 0=vL M.bH.en p0∧s.t 1=vL M.bH.en p1∧s.t 5=vI v5)∧nL p0 p1 m v5=some r
 have e1:=@nL.eq_2
 unfold aAr at h
 exact sgo 27 [.tmp 4] Tryz.func96
instance:bD 96 (type_of% @c96):=⟨@c96⟩
theorem aTp (p0 p1 r) (h:aCA p0 p1=some r):Sc 414 [aX (M.cJ.en p0),aX (M.cJ.en p1)] [rB r]:=by
 unfold aCA at h
 exact sgo 25 [.tmp 4] Tryz.func414
instance:bD 414 (type_of% @aTp):=⟨@aTp⟩
theorem aTg (p0 p1 r) (h:aAd p0 p1=some r):Sc 269 [aL M.cJ.en p0,aL M.cJ.en p1] [rB r]:=by
 have i1:=inv fun m s=>∃v5:Int,(s.t 0=vL M.cJ.en p0∧s.t 1=vL M.cJ.en p1∧s.t 5=vI v5)∧nN p0 p1 m v5=some r
 have e1:=@nN.eq_2
 unfold aAd at h
 exact sgo 27 [.tmp 4] Tryz.func269
instance:bD 269 (type_of% @aTg):=⟨@aTg⟩
theorem c97 (p0 p1 r) (h:pY p0 p1=some r):Sc 97 [aX (M.aQ.en p0),aX (M.aQ.en p1)] [rB r]:=by
 unfold pY at h
 exact sgo 11 [.tmp 4] Tryz.func97
instance:bD 97 (type_of% @c97):=⟨@c97⟩
theorem aVK (p0 p1 r) (h:aCD p0 p1=some r):Sc 415 [aX (M.eU.en p0),aX (M.eU.en p1)] [rB r]:=by
 unfold aCD at h
 exact sgo 20 [.tmp 4] Tryz.func415
instance:bD 415 (type_of% @aVK):=⟨@aVK⟩
theorem aUn (p0 p1 r) (h:aAz p0 p1=some r):Sc 270 [aL M.eU.en p0,aL M.eU.en p1] [rB r]:=by
 have i1:=inv fun m s=>∃v5:Int,(s.t 0=vL M.eU.en p0∧s.t 1=vL M.eU.en p1∧s.t 5=vI v5)∧nQ p0 p1 m v5=some r
 have e1:=@nQ.eq_2
 unfold aAz at h
 exact sgo 27 [.tmp 4] Tryz.func270
instance:bD 270 (type_of% @aUn):=⟨@aUn⟩
theorem c98 (p0 p1 r) (h:wP p0 p1=some r):Sc 98 [aX (M.Channel.en p0),aX (M.Channel.en p1)] [rB r]:=by
 unfold wP at h
 exact sgo 11 [.tmp 4] Tryz.func98
instance:bD 98 (type_of% @c98):=⟨@c98⟩
theorem aWs (p0 p1 r) (h:xA p0 p1=some r):Sc 416 [aL enS p0,aL enS p1] [rB r]:=by
 have i1:=inv fun m s=>∃v5:Int,(s.t 0=vL enS p0∧s.t 1=vL enS p1∧s.t 5=vI v5)∧kK p0 p1 m v5=some r
 have e1:=@kK.eq_2
 unfold xA at h
 exact sgo 26 [.tmp 4] Tryz.func416
instance:bD 416 (type_of% @aWs):=⟨@aWs⟩
theorem aXO (p0 p1 r) (h:aBc p0 p1=some r):Sc 271 [aX (M.Site.en p0),aX (M.Site.en p1)] [rB r]:=by
 unfold aBc at h
 exact sgo 26 [.tmp 4] Tryz.func271
instance:bD 271 (type_of% @aXO):=⟨@aXO⟩
theorem c99 (p0 p1 r) (h:aBD p0 p1=some r):Sc 99 [aL M.Site.en p0,aL M.Site.en p1] [rB r]:=by
 have i1:=inv fun m s=>∃v5:Int,(s.t 0=vL M.Site.en p0∧s.t 1=vL M.Site.en p1∧s.t 5=vI v5)∧nH p0 p1 m v5=some r
 have e1:=@nH.eq_2
 unfold aBD at h
 exact sgo 27 [.tmp 4] Tryz.func99
instance:bD 99 (type_of% @c99):=⟨@c99⟩
theorem aXc (p0 p1 r) (h:wB p0 p1=some r):Sc 516 [aX (M.aM.en p0),aX (M.aM.en p1)] [rB r]:=by
 unfold wB at h
 exact sgo 15 [.tmp 4] Tryz.func516
instance:bD 516 (type_of% @aXc):=⟨@aXc⟩
theorem aTs (p0 p1 r) (h:sV p0 p1=some r):Sc 418 [aL M.aM.en p0,aL M.aM.en p1] [rB r]:=by
 have i1:=inv fun m s=>∃v5:Int,(s.t 0=vL M.aM.en p0∧s.t 1=vL M.aM.en p1∧s.t 5=vI v5)∧jV p0 p1 m v5=some r
 have e1:=@jV.eq_2
 unfold sV at h
 exact sgo 27 [.tmp 4] Tryz.func418
instance:bD 418 (type_of% @aTs):=⟨@aTs⟩
theorem aV6 (p0 p1 r) (h:yU p0 p1=some r):Sc 272 [aX (M.Server.en p0),aX (M.Server.en p1)] [rB r]:=by
 unfold yU at h
 exact sgo 23 [.tmp 4] Tryz.func272
instance:bD 272 (type_of% @aV6):=⟨@aV6⟩
theorem aWg (p0 p1 r) (h:wY p0 p1=some r):Sc 100 [aL M.Server.en p0,aL M.Server.en p1] [rB r]:=by
 have i1:=inv fun m s=>∃v5:Int,(s.t 0=vL M.Server.en p0∧s.t 1=vL M.Server.en p1∧s.t 5=vI v5)∧kJ p0 p1 m v5=some r
 have e1:=@kJ.eq_2
 unfold wY at h
 exact sgo 27 [.tmp 4] Tryz.func100
instance:bD 100 (type_of% @aWg):=⟨@aWg⟩
theorem c16 (p0 p1 r) (h:mX p0 p1=some r):Sc 16 [aX (M.World.en p0),aX (M.World.en p1)] [rB r]:=by
 unfold mX at h
 exact sgo 61 [.tmp 4] Tryz.func16
instance:bD 16 (type_of% @c16):=⟨@c16⟩
end Go.Proofs.YtimblbmbfdopgaaGreat.gen
