/-
  Helper text. No conditions.
-/
import Derived.Test.YtnhpbpnhmapeeaaGreatActivateWorkerTi
namespace Go.Proofs.YtnhpbpnhmapeeaaGreat.gen
open Go Go.Sh
set_option linter.unusedVariables false
set_option linter.unusedSimpArgs false
set_option maxRecDepth 20000
set_option maxHeartbeats 4000000
theorem aTt (p0 r) (h:kM p0=some r):Sc 354 [aX (M.Registration.en p0)] [(true,M.Registration.rs r)]:=by
 unfold kM at h
 exact sgo 17 [.cell 2 107] Tryz.func354
instance:bC 354 (type_of% @aTt):=⟨@aTt⟩
theorem aTP (p0 r) (h:vD p0=some r):Sc 417 [aL enB p0] [rW 5 1 enB r]:=by
 have i1:=inv fun m s=>∃v4:Int,∃r7:List Int,(s.t 0=vL enB p0∧s.t 3=vR 100007 1∧s.t 4=vI v4∧s.h 100007=(1,oW 5 1 enB r7))∧mM p0 m v4 r7=some r
 have e1:=@mM.eq_2
 unfold vD at h
 exact sgo 22 [.tmp 2] Tryz.func417
instance:bC 417 (type_of% @aTP):=⟨@aTP⟩
theorem aRb (p0 r) (h:qM p0=some r):Sc 492 [aX (M.Response.en p0)] [(true,M.Response.rs r)]:=by
 unfold qM at h
 exact sgo 21 [.cell 2 137] Tryz.func492
instance:bC 492 (type_of% @aRb):=⟨@aRb⟩
theorem aTN (p0 r) (h:wS p0=some r):Sc 487 [aX (M.Cached.en p0)] [(true,M.Cached.rs r)]:=by
 unfold wS at h
 exact sgo 15 [.cell 2 368] Tryz.func487
instance:bC 487 (type_of% @aTN):=⟨@aTN⟩
theorem aVO (p0 r) (h:uC p0=some r):Sc 477 [aL M.Cached.en p0] [rW 368 7 M.Cached.en r]:=by
 have i1:=inv fun m s=>∃v4:Int,∃r7:List M.Cached,(s.t 0=vL M.Cached.en p0∧s.t 3=vR 100007 1∧s.t 4=vI v4∧s.h 100007=(1,oW 368 7 M.Cached.en r7))∧jM p0 m v4 r7=some r
 have e1:=@jM.eq_2
 unfold uC at h
 exact sgo 23 [.tmp 2] Tryz.func477
instance:bC 477 (type_of% @aVO):=⟨@aVO⟩
theorem aRa (p0 r) (h:yV p0=some r):Sc 456 [aX (M.Cache.en p0)] [(true,M.Cache.rs r)]:=by
 unfold yV at h
 exact sgo 12 [.cell 2 286] Tryz.func456
instance:bC 456 (type_of% @aRa):=⟨@aRa⟩
theorem aS0 (p0 r) (h:xC p0=some r):Sc 415 [aL M.Cache.en p0] [rW 286 2 M.Cache.en r]:=by
 have i1:=inv fun m s=>∃v4:Int,∃r7:List M.Cache,(s.t 0=vL M.Cache.en p0∧s.t 3=vR 100007 1∧s.t 4=vI v4∧s.h 100007=(1,oW 286 2 M.Cache.en r7))∧lC p0 m v4 r7=some r
 have e1:=@lC.eq_2
 unfold xC at h
 exact sgo 23 [.tmp 2] Tryz.func415
instance:bC 415 (type_of% @aS0):=⟨@aS0⟩
theorem aU3 (p0 r) (h:qR p0=some r):Sc 355 [aX (M.aM.en p0)] [(true,M.aM.rs r)]:=by
 unfold qR at h
 exact sgo 9 [.cell 2 110] Tryz.func355
instance:bC 355 (type_of% @aU3):=⟨@aU3⟩
theorem aSM (p0 r) (h:aAP p0=some r):Sc 420 [aX (M.Key.en p0)] [(true,M.Key.rs r)]:=by
 unfold aAP at h
 exact sgo 14 [.cell 2 174] Tryz.func420
instance:bC 420 (type_of% @aSM):=⟨@aSM⟩
theorem aUI (p0 r) (h:zU p0=some r):Sc 488 [aX (M.Field.en p0)] [(true,M.Field.rs r)]:=by
 unfold zU at h
 exact sgo 11 [.cell 2 417] Tryz.func488
instance:bC 488 (type_of% @aUI):=⟨@aUI⟩
theorem aSc (p0 r) (h:xS p0=some r):Sc 479 [aL M.Field.en p0] [rW 417 2 M.Field.en r]:=by
 have i1:=inv fun m s=>∃v4:Int,∃r7:List M.Field,(s.t 0=vL M.Field.en p0∧s.t 3=vR 100007 1∧s.t 4=vI v4∧s.h 100007=(1,oW 417 2 M.Field.en r7))∧kQ p0 m v4 r7=some r
 have e1:=@kQ.eq_2
 unfold xS at h
 exact sgo 23 [.tmp 2] Tryz.func479
instance:bC 479 (type_of% @aSc):=⟨@aSc⟩
theorem aT7 (p0 r) (h:wQ p0=some r):Sc 460 [aX (M.aU.en p0)] [(true,M.aU.rs r)]:=by
 unfold wQ at h
 exact sgo 9 [.cell 2 355] Tryz.func460
instance:bC 460 (type_of% @aT7):=⟨@aT7⟩
theorem aTH (p0 r) (h:aAX p0=some r):Sc 419 [aX (M.Item.en p0)] [(true,M.Item.rs r)]:=by
 unfold aAX at h
 exact sgo 13 [.cell 2 357] Tryz.func419
instance:bC 419 (type_of% @aTH):=⟨@aTH⟩
theorem aTX (p0 r) (h:yU p0=some r):Sc 358 [aL M.Item.en p0] [rW 357 4 M.Item.en r]:=by
 have i1:=inv fun m s=>∃v4:Int,∃r7:List M.Item,(s.t 0=vL M.Item.en p0∧s.t 3=vR 100007 1∧s.t 4=vI v4∧s.h 100007=(1,oW 357 4 M.Item.en r7))∧mO p0 m v4 r7=some r
 have e1:=@mO.eq_2
 unfold yU at h
 exact sgo 23 [.tmp 2] Tryz.func358
instance:bC 358 (type_of% @aTX):=⟨@aTX⟩
theorem aSu (p0 r) (h:pR p0=some r):Sc 278 [aX (M.aH.en p0)] [(true,M.aH.rs r)]:=by
 unfold pR at h
 exact sgo 15 [.cell 2 98] Tryz.func278
instance:bC 278 (type_of% @aSu):=⟨@aSu⟩
theorem aTy (p0 r) (h:wJ p0=some r):Sc 457 [aL M.aH.en p0] [rW 98 3 M.aH.en r]:=by
 have i1:=inv fun m s=>∃v4:Int,∃r7:List M.aH,(s.t 0=vL M.aH.en p0∧s.t 3=vR 100007 1∧s.t 4=vI v4∧s.h 100007=(1,oW 98 3 M.aH.en r7))∧kY p0 m v4 r7=some r
 have e1:=@kY.eq_2
 unfold wJ at h
 exact sgo 23 [.tmp 2] Tryz.func457
instance:bC 457 (type_of% @aTy):=⟨@aTy⟩
theorem aTc (p0 r) (h:rN p0=some r):Sc 478 [aX (M.aD.en p0)] [(true,M.aD.rs r)]:=by
 unfold rN at h
 exact sgo 11 [.cell 2 383] Tryz.func478
instance:bC 478 (type_of% @aTc):=⟨@aTc⟩
theorem aRR (p0 r) (h:oZ p0=some r):Sc 458 [aL M.aD.en p0] [rW 383 2 M.aD.en r]:=by
 have i1:=inv fun m s=>∃v4:Int,∃r7:List M.aD,(s.t 0=vL M.aD.en p0∧s.t 3=vR 100007 1∧s.t 4=vI v4∧s.h 100007=(1,oW 383 2 M.aD.en r7))∧iJ p0 m v4 r7=some r
 have e1:=@iJ.eq_2
 unfold oZ at h
 exact sgo 23 [.tmp 2] Tryz.func458
instance:bC 458 (type_of% @aRR):=⟨@aRR⟩
theorem aUV (p0 r) (h:pZ p0=some r):Sc 416 [aX (M.Database.en p0)] [(true,M.Database.rs r)]:=by
 unfold pZ at h
 exact sgo 19 [.cell 2 114] Tryz.func416
instance:bC 416 (type_of% @aUV):=⟨@aUV⟩
theorem aRS (p0 r) (h:aBC p0=some r):Sc 356 [aX (M.bB.en p0)] [(true,M.bB.rs r)]:=by
 unfold aBC at h
 exact sgo 16 [.cell 2 116] Tryz.func356
instance:bC 356 (type_of% @aRS):=⟨@aRS⟩
theorem aRu (p0 r) (h:zF p0=some r):Sc 360 [aX (M.aY.en p0)] [(true,M.aY.rs r)]:=by
 unfold zF at h
 exact sgo 21 [.cell 2 272] Tryz.func360
instance:bC 360 (type_of% @aRu):=⟨@aRu⟩
theorem aUb (p0 r) (h:rA p0=some r):Sc 280 [aL M.aY.en p0] [rW 272 7 M.aY.en r]:=by
 have i1:=inv fun m s=>∃v4:Int,∃r7:List M.aY,(s.t 0=vL M.aY.en p0∧s.t 3=vR 100007 1∧s.t 4=vI v4∧s.h 100007=(1,oW 272 7 M.aY.en r7))∧lD p0 m v4 r7=some r
 have e1:=@lD.eq_2
 unfold rA at h
 exact sgo 23 [.tmp 2] Tryz.func280
instance:bC 280 (type_of% @aUb):=⟨@aUb⟩
theorem aUs (p0 r) (h:wD p0=some r):Sc 459 [aX (M.aV.en p0)] [(true,M.aV.rs r)]:=by
 unfold wD at h
 exact sgo 15 [.cell 2 118] Tryz.func459
instance:bC 459 (type_of% @aUs):=⟨@aUs⟩
theorem aRf (p0 r) (h:aA5 p0=some r):Sc 418 [aX (M.Sync.en p0)] [(true,M.Sync.rs r)]:=by
 unfold aA5 at h
 exact sgo 15 [.cell 2 120] Tryz.func418
instance:bC 418 (type_of% @aRf):=⟨@aRf⟩
theorem aVb (p0 r) (h:uD p0=some r):Sc 357 [aX (M.aE.en p0)] [(true,M.aE.rs r)]:=by
 unfold uD at h
 exact sgo 16 [.cell 2 122] Tryz.func357
instance:bC 357 (type_of% @aVb):=⟨@aVb⟩
theorem aSU (p0 r) (h:xE p0=some r):Sc 274 [aX (M.aA.en p0)] [(true,M.aA.rs r)]:=by
 unfold xE at h
 exact sgo 33 [.cell 2 124] Tryz.func274
instance:bC 274 (type_of% @aSU):=⟨@aSU⟩
theorem aS9 (p0 r) (h:uT p0=some r):Sc 177 [aL M.aA.en p0] [rW 124 24 M.aA.en r]:=by
 have i1:=inv fun m s=>∃v4:Int,∃r7:List M.aA,(s.t 0=vL M.aA.en p0∧s.t 3=vR 100007 1∧s.t 4=vI v4∧s.h 100007=(1,oW 124 24 M.aA.en r7))∧jX p0 m v4 r7=some r
 have e1:=@jX.eq_2
 unfold uT at h
 exact sgo 23 [.tmp 2] Tryz.func177
instance:bC 177 (type_of% @aS9):=⟨@aS9⟩
theorem c64 (p0 r) (h:tU p0=some r):Sc 64 [aX (M.aC.en p0)] [(true,M.aC.rs r)]:=by
 unfold tU at h
 exact sgo 9 [.cell 2 26] Tryz.func64
instance:bC 64 (type_of% @c64):=⟨@c64⟩
theorem aSQ (p0 r) (h:vY p0=some r):Sc 212 [aX (M.aN.en p0)] [(true,M.aN.rs r)]:=by
 unfold vY at h
 exact sgo 11 [.cell 2 222] Tryz.func212
instance:bC 212 (type_of% @aSQ):=⟨@aSQ⟩
theorem c94 (p0 r) (h:tP p0=some r):Sc 94 [aL M.aN.en p0] [rW 222 2 M.aN.en r]:=by
 have i1:=inv fun m s=>∃v4:Int,∃r7:List M.aN,(s.t 0=vL M.aN.en p0∧s.t 3=vR 100007 1∧s.t 4=vI v4∧s.h 100007=(1,oW 222 2 M.aN.en r7))∧jW p0 m v4 r7=some r
 have e1:=@jW.eq_2
 unfold tP at h
 exact sgo 23 [.tmp 2] Tryz.func94
instance:bC 94 (type_of% @c94):=⟨@c94⟩
theorem aVY (p0 r) (h:zV p0=some r):Sc 116 [aX (M.Instr.en p0)] [(true,M.Instr.rs r)]:=by
 unfold zV at h
 exact sgo 17 [.cell 2 196] Tryz.func116
instance:bC 116 (type_of% @aVY):=⟨@aVY⟩
theorem c30 (p0 r) (h:xT p0=some r):Sc 30 [aL M.Instr.en p0] [rW 196 4 M.Instr.en r]:=by
 have i1:=inv fun m s=>∃v4:Int,∃r7:List M.Instr,(s.t 0=vL M.Instr.en p0∧s.t 3=vR 100007 1∧s.t 4=vI v4∧s.h 100007=(1,oW 196 4 M.Instr.en r7))∧kP p0 m v4 r7=some r
 have e1:=@kP.eq_2
 unfold xT at h
 exact sgo 23 [.tmp 2] Tryz.func30
instance:bC 30 (type_of% @c30):=⟨@c30⟩
theorem aUG (p0 r) (h:aAj p0=some r):Sc 213 [aL enI p0] [rW 3 1 enI r]:=by
 have i1:=inv fun m s=>∃v4:Int,∃r7:List Int,(s.t 0=vL enI p0∧s.t 3=vR 100007 1∧s.t 4=vI v4∧s.h 100007=(1,oW 3 1 enI r7))∧nU p0 m v4 r7=some r
 have e1:=@nU.eq_2
 unfold aAj at h
 exact sgo 22 [.tmp 2] Tryz.func213
instance:bC 213 (type_of% @aUG):=⟨@aUG⟩
theorem c95 (p0 r) (h:tJ p0=some r):Sc 95 [aX (M.Machine.en p0)] [(true,M.Machine.rs r)]:=by
 unfold tJ at h
 exact sgo 25 [.cell 2 78] Tryz.func95
instance:bC 95 (type_of% @c95):=⟨@c95⟩
theorem c23 (p0 r) (h:aAa p0=some r):Sc 23 [aX (M.bI.en p0)] [(true,M.bI.rs r)]:=by
 unfold aAa at h
 exact sgo 25 [.cell 2 80] Tryz.func23
instance:bC 23 (type_of% @c23):=⟨@c23⟩
theorem c65 (p0 r) (h:zC p0=some r):Sc 65 [aL M.bI.en p0] [rW 80 11 M.bI.en r]:=by
 have i1:=inv fun m s=>∃v4:Int,∃r7:List M.bI,(s.t 0=vL M.bI.en p0∧s.t 3=vR 100007 1∧s.t 4=vI v4∧s.h 100007=(1,oW 80 11 M.bI.en r7))∧mJ p0 m v4 r7=some r
 have e1:=@mJ.eq_2
 unfold zC at h
 exact sgo 23 [.tmp 2] Tryz.func65
instance:bC 65 (type_of% @c65):=⟨@c65⟩
theorem aUa (p0 r) (h:aAn p0=some r):Sc 275 [aX (M.cG.en p0)] [(true,M.cG.rs r)]:=by
 unfold aAn at h
 exact sgo 17 [.cell 2 144] Tryz.func275
instance:bC 275 (type_of% @aUa):=⟨@aUa⟩
theorem aUr (p0 r) (h:yW p0=some r):Sc 178 [aL M.cG.en p0] [rW 144 4 M.cG.en r]:=by
 have i1:=inv fun m s=>∃v4:Int,∃r7:List M.cG,(s.t 0=vL M.cG.en p0∧s.t 3=vR 100007 1∧s.t 4=vI v4∧s.h 100007=(1,oW 144 4 M.cG.en r7))∧mA p0 m v4 r7=some r
 have e1:=@mA.eq_2
 unfold yW at h
 exact sgo 23 [.tmp 2] Tryz.func178
instance:bC 178 (type_of% @aUr):=⟨@aUr⟩
theorem c66 (p0 r) (h:oO p0=some r):Sc 66 [aX (M.aR.en p0)] [(true,M.aR.rs r)]:=by
 unfold oO at h
 exact sgo 9 [.cell 2 30] Tryz.func66
instance:bC 66 (type_of% @c66):=⟨@c66⟩
theorem aUp (p0 r) (h:aAy p0=some r):Sc 276 [aX (M.fK.en p0)] [(true,M.fK.rs r)]:=by
 unfold aAy at h
 exact sgo 14 [.cell 2 232] Tryz.func276
instance:bC 276 (type_of% @aUp):=⟨@aUp⟩
theorem aSY (p0 r) (h:yO p0=some r):Sc 179 [aL M.fK.en p0] [rW 232 3 M.fK.en r]:=by
 have i1:=inv fun m s=>∃v4:Int,∃r7:List M.fK,(s.t 0=vL M.fK.en p0∧s.t 3=vR 100007 1∧s.t 4=vI v4∧s.h 100007=(1,oW 232 3 M.fK.en r7))∧mC p0 m v4 r7=some r
 have e1:=@mC.eq_2
 unfold yO at h
 exact sgo 23 [.tmp 2] Tryz.func179
instance:bC 179 (type_of% @aSY):=⟨@aSY⟩
theorem c67 (p0 r) (h:tB p0=some r):Sc 67 [aX (M.Channel.en p0)] [(true,M.Channel.rs r)]:=by
 unfold tB at h
 exact sgo 9 [.cell 2 33] Tryz.func67
instance:bC 67 (type_of% @c67):=⟨@c67⟩
theorem aVZ (p0 r) (h:uO p0=some r):Sc 277 [aL enS p0] [rW 9 1 enS r]:=by
 have i1:=inv fun m s=>∃v4:Int,∃r7:List ByteArray,(s.t 0=vL enS p0∧s.t 3=vR 100007 1∧s.t 4=vI v4∧s.h 100007=(1,oW 9 1 enS r7))∧jO p0 m v4 r7=some r
 have e1:=@jO.eq_2
 unfold uO at h
 exact sgo 22 [.tmp 2] Tryz.func277
instance:bC 277 (type_of% @aVZ):=⟨@aVZ⟩
theorem aRQ (p0 r) (h:aAu p0=some r):Sc 180 [aX (M.Site.en p0)] [(true,M.Site.rs r)]:=by
 unfold aAu at h
 exact sgo 18 [.cell 2 95] Tryz.func180
instance:bC 180 (type_of% @aRQ):=⟨@aRQ⟩
theorem c68 (p0 r) (h:zJ p0=some r):Sc 68 [aL M.Site.en p0] [rW 95 4 M.Site.en r]:=by
 have i1:=inv fun m s=>∃v4:Int,∃r7:List M.Site,(s.t 0=vL M.Site.en p0∧s.t 3=vR 100007 1∧s.t 4=vI v4∧s.h 100007=(1,oW 95 4 M.Site.en r7))∧mK p0 m v4 r7=some r
 have e1:=@mK.eq_2
 unfold zJ at h
 exact sgo 23 [.tmp 2] Tryz.func68
instance:bC 68 (type_of% @c68):=⟨@c68⟩
theorem aUD (p0 r) (h:uI p0=some r):Sc 359 [aX (M.aJ.en p0)] [(true,M.aJ.rs r)]:=by
 unfold uI at h
 exact sgo 11 [.cell 2 295] Tryz.func359
instance:bC 359 (type_of% @aUD):=⟨@aUD⟩
theorem aUQ (p0 r) (h:rE p0=some r):Sc 279 [aL M.aJ.en p0] [rW 295 2 M.aJ.en r]:=by
 have i1:=inv fun m s=>∃v4:Int,∃r7:List M.aJ,(s.t 0=vL M.aJ.en p0∧s.t 3=vR 100007 1∧s.t 4=vI v4∧s.h 100007=(1,oW 295 2 M.aJ.en r7))∧jD p0 m v4 r7=some r
 have e1:=@jD.eq_2
 unfold rE at h
 exact sgo 23 [.tmp 2] Tryz.func279
instance:bC 279 (type_of% @aUQ):=⟨@aUQ⟩
theorem aST (p0 r) (h:xQ p0=some r):Sc 181 [aX (M.Server.en p0)] [(true,M.Server.rs r)]:=by
 unfold xQ at h
 exact sgo 17 [.cell 2 102] Tryz.func181
instance:bC 181 (type_of% @aST):=⟨@aST⟩
theorem c69 (p0 r) (h:tQ p0=some r):Sc 69 [aL M.Server.en p0] [rW 102 5 M.Server.en r]:=by
 have i1:=inv fun m s=>∃v4:Int,∃r7:List M.Server,(s.t 0=vL M.Server.en p0∧s.t 3=vR 100007 1∧s.t 4=vI v4∧s.h 100007=(1,oW 102 5 M.Server.en r7))∧jT p0 m v4 r7=some r
 have e1:=@jT.eq_2
 unfold tQ at h
 exact sgo 23 [.tmp 2] Tryz.func69
instance:bC 69 (type_of% @c69):=⟨@c69⟩
theorem c17 (p0 r) (h:lZ p0=some r):Sc 17 [aX (M.World.en p0)] [(true,M.World.rs r)]:=by
 unfold lZ at h
 exact sgo 41 [.cell 2 37] Tryz.func17
instance:bC 17 (type_of% @c17):=⟨@c17⟩
end Go.Proofs.YtnhpbpnhmapeeaaGreat.gen
