/-
  Helper text. No conditions.
-/
import Derived.Test.YtnhpbpnhmapeeaaGreatClosePageTi
namespace Go.Proofs.YtnhpbpnhmapeeaaGreat.gen
open Go Go.Sh
set_option linter.unusedVariables false
set_option linter.unusedSimpArgs false
set_option maxRecDepth 20000
set_option maxHeartbeats 4000000
theorem aSw (p0 r) (h:kC p0=some r):Sc 354 [aX (M.Registration.en p0)] [(true,M.Registration.rs r)]:=by
 unfold kC at h
 exact sgo 17 [.cell 2 107] Tryz.func354
instance:bD 354 (type_of% @aSw):=⟨@aSw⟩
theorem aST (p0 r) (h:uM p0=some r):Sc 417 [aL enB p0] [rW 5 1 enB r]:=by
 have i1:=inv fun m s=>∃v4:Int,∃r7:List Int,(s.t 0=vL enB p0∧s.t 3=vR 100007 1∧s.t 4=vI v4∧s.h 100007=(1,oW 5 1 enB r7))∧mD p0 m v4 r7=some r
 have e1:=@mD.eq_2
 unfold uM at h
 exact sgo 22 [.tmp 2] Tryz.func417
instance:bD 417 (type_of% @aST):=⟨@aST⟩
theorem aQk (p0 r) (h:qB p0=some r):Sc 492 [aX (M.Response.en p0)] [(true,M.Response.rs r)]:=by
 unfold qB at h
 exact sgo 21 [.cell 2 137] Tryz.func492
instance:bD 492 (type_of% @aQk):=⟨@aQk⟩
theorem aSR (p0 r) (h:wC p0=some r):Sc 487 [aX (M.Cached.en p0)] [(true,M.Cached.rs r)]:=by
 unfold wC at h
 exact sgo 15 [.cell 2 368] Tryz.func487
instance:bD 487 (type_of% @aSR):=⟨@aSR⟩
theorem aUS (p0 r) (h:tL p0=some r):Sc 477 [aL M.Cached.en p0] [rW 368 7 M.Cached.en r]:=by
 have i1:=inv fun m s=>∃v4:Int,∃r7:List M.Cached,(s.t 0=vL M.Cached.en p0∧s.t 3=vR 100007 1∧s.t 4=vI v4∧s.h 100007=(1,oW 368 7 M.Cached.en r7))∧jI p0 m v4 r7=some r
 have e1:=@jI.eq_2
 unfold tL at h
 exact sgo 23 [.tmp 2] Tryz.func477
instance:bD 477 (type_of% @aUS):=⟨@aUS⟩
theorem aQj (p0 r) (h:yD p0=some r):Sc 456 [aX (M.Cache.en p0)] [(true,M.Cache.rs r)]:=by
 unfold yD at h
 exact sgo 12 [.cell 2 286] Tryz.func456
instance:bD 456 (type_of% @aQj):=⟨@aQj⟩
theorem aR6 (p0 r) (h:wN p0=some r):Sc 415 [aL M.Cache.en p0] [rW 286 2 M.Cache.en r]:=by
 have i1:=inv fun m s=>∃v4:Int,∃r7:List M.Cache,(s.t 0=vL M.Cache.en p0∧s.t 3=vR 100007 1∧s.t 4=vI v4∧s.h 100007=(1,oW 286 2 M.Cache.en r7))∧kS p0 m v4 r7=some r
 have e1:=@kS.eq_2
 unfold wN at h
 exact sgo 23 [.tmp 2] Tryz.func415
instance:bD 415 (type_of% @aR6):=⟨@aR6⟩
theorem aT4 (p0 r) (h:qH p0=some r):Sc 355 [aX (M.aT.en p0)] [(true,M.aT.rs r)]:=by
 unfold qH at h
 exact sgo 9 [.cell 2 110] Tryz.func355
instance:bD 355 (type_of% @aT4):=⟨@aT4⟩
theorem aRV (p0 r) (h:zZ p0=some r):Sc 420 [aX (M.Key.en p0)] [(true,M.Key.rs r)]:=by
 unfold zZ at h
 exact sgo 14 [.cell 2 174] Tryz.func420
instance:bD 420 (type_of% @aRV):=⟨@aRV⟩
theorem aTJ (p0 r) (h:zD p0=some r):Sc 488 [aX (M.Field.en p0)] [(true,M.Field.rs r)]:=by
 unfold zD at h
 exact sgo 11 [.cell 2 417] Tryz.func488
instance:bD 488 (type_of% @aTJ):=⟨@aTJ⟩
theorem aRl (p0 r) (h:xA p0=some r):Sc 479 [aL M.Field.en p0] [rW 417 2 M.Field.en r]:=by
 have i1:=inv fun m s=>∃v4:Int,∃r7:List M.Field,(s.t 0=vL M.Field.en p0∧s.t 3=vR 100007 1∧s.t 4=vI v4∧s.h 100007=(1,oW 417 2 M.Field.en r7))∧kG p0 m v4 r7=some r
 have e1:=@kG.eq_2
 unfold xA at h
 exact sgo 23 [.tmp 2] Tryz.func479
instance:bD 479 (type_of% @aRl):=⟨@aRl⟩
theorem aS9 (p0 r) (h:wA p0=some r):Sc 460 [aX (M.aU.en p0)] [(true,M.aU.rs r)]:=by
 unfold wA at h
 exact sgo 9 [.cell 2 355] Tryz.func460
instance:bD 460 (type_of% @aS9):=⟨@aS9⟩
theorem aSM (p0 r) (h:aAG p0=some r):Sc 419 [aX (M.Item.en p0)] [(true,M.Item.rs r)]:=by
 unfold aAG at h
 exact sgo 13 [.cell 2 357] Tryz.func419
instance:bD 419 (type_of% @aSM):=⟨@aSM⟩
theorem aSb (p0 r) (h:yC p0=some r):Sc 358 [aL M.Item.en p0] [rW 357 4 M.Item.en r]:=by
 have i1:=inv fun m s=>∃v4:Int,∃r7:List M.Item,(s.t 0=vL M.Item.en p0∧s.t 3=vR 100007 1∧s.t 4=vI v4∧s.h 100007=(1,oW 357 4 M.Item.en r7))∧mI p0 m v4 r7=some r
 have e1:=@mI.eq_2
 unfold yC at h
 exact sgo 23 [.tmp 2] Tryz.func358
instance:bD 358 (type_of% @aSb):=⟨@aSb⟩
theorem aR0 (p0 r) (h:pI p0=some r):Sc 278 [aX (M.aH.en p0)] [(true,M.aH.rs r)]:=by
 unfold pI at h
 exact sgo 15 [.cell 2 98] Tryz.func278
instance:bD 278 (type_of% @aR0):=⟨@aR0⟩
theorem aS0 (p0 r) (h:vT p0=some r):Sc 457 [aL M.aH.en p0] [rW 98 3 M.aH.en r]:=by
 have i1:=inv fun m s=>∃v4:Int,∃r7:List M.aH,(s.t 0=vL M.aH.en p0∧s.t 3=vR 100007 1∧s.t 4=vI v4∧s.h 100007=(1,oW 98 3 M.aH.en r7))∧kO p0 m v4 r7=some r
 have e1:=@kO.eq_2
 unfold vT at h
 exact sgo 23 [.tmp 2] Tryz.func457
instance:bD 457 (type_of% @aS0):=⟨@aS0⟩
theorem aSf (p0 r) (h:rA p0=some r):Sc 478 [aX (M.aA.en p0)] [(true,M.aA.rs r)]:=by
 unfold rA at h
 exact sgo 11 [.cell 2 383] Tryz.func478
instance:bD 478 (type_of% @aSf):=⟨@aSf⟩
theorem aQb (p0 r) (h:oM p0=some r):Sc 458 [aL M.aA.en p0] [rW 383 2 M.aA.en r]:=by
 have i1:=inv fun m s=>∃v4:Int,∃r7:List M.aA,(s.t 0=vL M.aA.en p0∧s.t 3=vR 100007 1∧s.t 4=vI v4∧s.h 100007=(1,oW 383 2 M.aA.en r7))∧iC p0 m v4 r7=some r
 have e1:=@iC.eq_2
 unfold oM at h
 exact sgo 23 [.tmp 2] Tryz.func458
instance:bD 458 (type_of% @aQb):=⟨@aQb⟩
theorem aTT (p0 r) (h:pO p0=some r):Sc 416 [aX (M.Database.en p0)] [(true,M.Database.rs r)]:=by
 unfold pO at h
 exact sgo 19 [.cell 2 114] Tryz.func416
instance:bD 416 (type_of% @aTT):=⟨@aTT⟩
theorem aQc (p0 r) (h:aAw p0=some r):Sc 356 [aX (M.bE.en p0)] [(true,M.bE.rs r)]:=by
 unfold aAw at h
 exact sgo 16 [.cell 2 116] Tryz.func356
instance:bD 356 (type_of% @aQc):=⟨@aQc⟩
theorem aQ5 (p0 r) (h:yP p0=some r):Sc 360 [aX (M.aY.en p0)] [(true,M.aY.rs r)]:=by
 unfold yP at h
 exact sgo 21 [.cell 2 272] Tryz.func360
instance:bD 360 (type_of% @aQ5):=⟨@aQ5⟩
theorem aTZ (p0 r) (h:qP p0=some r):Sc 280 [aL M.aY.en p0] [rW 272 7 M.aY.en r]:=by
 have i1:=inv fun m s=>∃v4:Int,∃r7:List M.aY,(s.t 0=vL M.aY.en p0∧s.t 3=vR 100007 1∧s.t 4=vI v4∧s.h 100007=(1,oW 272 7 M.aY.en r7))∧kU p0 m v4 r7=some r
 have e1:=@kU.eq_2
 unfold qP at h
 exact sgo 23 [.tmp 2] Tryz.func280
instance:bD 280 (type_of% @aTZ):=⟨@aTZ⟩
theorem aTr (p0 r) (h:vJ p0=some r):Sc 459 [aX (M.aV.en p0)] [(true,M.aV.rs r)]:=by
 unfold vJ at h
 exact sgo 15 [.cell 2 118] Tryz.func459
instance:bD 459 (type_of% @aTr):=⟨@aTr⟩
theorem aQo (p0 r) (h:aAo p0=some r):Sc 418 [aX (M.Sync.en p0)] [(true,M.Sync.rs r)]:=by
 unfold aAo at h
 exact sgo 15 [.cell 2 120] Tryz.func418
instance:bD 418 (type_of% @aQo):=⟨@aQo⟩
theorem aUf (p0 r) (h:tM p0=some r):Sc 357 [aX (M.aD.en p0)] [(true,M.aD.rs r)]:=by
 unfold tM at h
 exact sgo 16 [.cell 2 122] Tryz.func357
instance:bD 357 (type_of% @aUf):=⟨@aUf⟩
theorem aRd (p0 r) (h:wP p0=some r):Sc 274 [aX (M.aF.en p0)] [(true,M.aF.rs r)]:=by
 unfold wP at h
 exact sgo 33 [.cell 2 124] Tryz.func274
instance:bD 274 (type_of% @aRd):=⟨@aRd⟩
theorem aSF (p0 r) (h:uF p0=some r):Sc 177 [aL M.aF.en p0] [rW 124 24 M.aF.en r]:=by
 have i1:=inv fun m s=>∃v4:Int,∃r7:List M.aF,(s.t 0=vL M.aF.en p0∧s.t 3=vR 100007 1∧s.t 4=vI v4∧s.h 100007=(1,oW 124 24 M.aF.en r7))∧jT p0 m v4 r7=some r
 have e1:=@jT.eq_2
 unfold uF at h
 exact sgo 23 [.tmp 2] Tryz.func177
instance:bD 177 (type_of% @aSF):=⟨@aSF⟩
theorem c64 (p0 r) (h:tB p0=some r):Sc 64 [aX (M.aM.en p0)] [(true,M.aM.rs r)]:=by
 unfold tB at h
 exact sgo 9 [.cell 2 26] Tryz.func64
instance:bD 64 (type_of% @c64):=⟨@c64⟩
theorem aRZ (p0 r) (h:vD p0=some r):Sc 212 [aX (M.aN.en p0)] [(true,M.aN.rs r)]:=by
 unfold vD at h
 exact sgo 11 [.cell 2 222] Tryz.func212
instance:bD 212 (type_of% @aRZ):=⟨@aRZ⟩
theorem c94 (p0 r) (h:sX p0=some r):Sc 94 [aL M.aN.en p0] [rW 222 2 M.aN.en r]:=by
 have i1:=inv fun m s=>∃v4:Int,∃r7:List M.aN,(s.t 0=vL M.aN.en p0∧s.t 3=vR 100007 1∧s.t 4=vI v4∧s.h 100007=(1,oW 222 2 M.aN.en r7))∧jS p0 m v4 r7=some r
 have e1:=@jS.eq_2
 unfold sX at h
 exact sgo 23 [.tmp 2] Tryz.func94
instance:bD 94 (type_of% @c94):=⟨@c94⟩
theorem aUc (p0 r) (h:zE p0=some r):Sc 116 [aX (M.Instr.en p0)] [(true,M.Instr.rs r)]:=by
 unfold zE at h
 exact sgo 17 [.cell 2 196] Tryz.func116
instance:bD 116 (type_of% @aUc):=⟨@aUc⟩
theorem c30 (p0 r) (h:xB p0=some r):Sc 30 [aL M.Instr.en p0] [rW 196 4 M.Instr.en r]:=by
 have i1:=inv fun m s=>∃v4:Int,∃r7:List M.Instr,(s.t 0=vL M.Instr.en p0∧s.t 3=vR 100007 1∧s.t 4=vI v4∧s.h 100007=(1,oW 196 4 M.Instr.en r7))∧kF p0 m v4 r7=some r
 have e1:=@kF.eq_2
 unfold xB at h
 exact sgo 23 [.tmp 2] Tryz.func30
instance:bD 30 (type_of% @c30):=⟨@c30⟩
theorem aTH (p0 r) (h:aAT p0=some r):Sc 213 [aL enI p0] [rW 3 1 enI r]:=by
 have i1:=inv fun m s=>∃v4:Int,∃r7:List Int,(s.t 0=vL enI p0∧s.t 3=vR 100007 1∧s.t 4=vI v4∧s.h 100007=(1,oW 3 1 enI r7))∧nM p0 m v4 r7=some r
 have e1:=@nM.eq_2
 unfold aAT at h
 exact sgo 22 [.tmp 2] Tryz.func213
instance:bD 213 (type_of% @aTH):=⟨@aTH⟩
theorem c95 (p0 r) (h:sR p0=some r):Sc 95 [aX (M.Machine.en p0)] [(true,M.Machine.rs r)]:=by
 unfold sR at h
 exact sgo 25 [.cell 2 78] Tryz.func95
instance:bD 95 (type_of% @c95):=⟨@c95⟩
theorem c23 (p0 r) (h:aAJ p0=some r):Sc 23 [aX (M.bG.en p0)] [(true,M.bG.rs r)]:=by
 unfold aAJ at h
 exact sgo 25 [.cell 2 80] Tryz.func23
instance:bD 23 (type_of% @c23):=⟨@c23⟩
theorem c65 (p0 r) (h:yM p0=some r):Sc 65 [aL M.bG.en p0] [rW 80 11 M.bG.en r]:=by
 have i1:=inv fun m s=>∃v4:Int,∃r7:List M.bG,(s.t 0=vL M.bG.en p0∧s.t 3=vR 100007 1∧s.t 4=vI v4∧s.h 100007=(1,oW 80 11 M.bG.en r7))∧mA p0 m v4 r7=some r
 have e1:=@mA.eq_2
 unfold yM at h
 exact sgo 23 [.tmp 2] Tryz.func65
instance:bD 65 (type_of% @c65):=⟨@c65⟩
theorem aTY (p0 r) (h:aAW p0=some r):Sc 275 [aX (M.bF.en p0)] [(true,M.bF.rs r)]:=by
 unfold aAW at h
 exact sgo 17 [.cell 2 144] Tryz.func275
instance:bD 275 (type_of% @aTY):=⟨@aTY⟩
theorem aTq (p0 r) (h:yE p0=some r):Sc 178 [aL M.bF.en p0] [rW 144 4 M.bF.en r]:=by
 have i1:=inv fun m s=>∃v4:Int,∃r7:List M.bF,(s.t 0=vL M.bF.en p0∧s.t 3=vR 100007 1∧s.t 4=vI v4∧s.h 100007=(1,oW 144 4 M.bF.en r7))∧lQ p0 m v4 r7=some r
 have e1:=@lQ.eq_2
 unfold yE at h
 exact sgo 23 [.tmp 2] Tryz.func178
instance:bD 178 (type_of% @aTq):=⟨@aTq⟩
theorem c66 (p0 r) (h:oH p0=some r):Sc 66 [aX (M.aE.en p0)] [(true,M.aE.rs r)]:=by
 unfold oH at h
 exact sgo 9 [.cell 2 30] Tryz.func66
instance:bD 66 (type_of% @c66):=⟨@c66⟩
theorem aTo (p0 r) (h:aAh p0=some r):Sc 276 [aX (M.bU.en p0)] [(true,M.bU.rs r)]:=by
 unfold aAh at h
 exact sgo 14 [.cell 2 232] Tryz.func276
instance:bD 276 (type_of% @aTo):=⟨@aTo⟩
theorem aRh (p0 r) (h:xV p0=some r):Sc 179 [aL M.bU.en p0] [rW 232 3 M.bU.en r]:=by
 have i1:=inv fun m s=>∃v4:Int,∃r7:List M.bU,(s.t 0=vL M.bU.en p0∧s.t 3=vR 100007 1∧s.t 4=vI v4∧s.h 100007=(1,oW 232 3 M.bU.en r7))∧lT p0 m v4 r7=some r
 have e1:=@lT.eq_2
 unfold xV at h
 exact sgo 23 [.tmp 2] Tryz.func179
instance:bD 179 (type_of% @aRh):=⟨@aRh⟩
theorem c67 (p0 r) (h:sL p0=some r):Sc 67 [aX (M.Channel.en p0)] [(true,M.Channel.rs r)]:=by
 unfold sL at h
 exact sgo 9 [.cell 2 33] Tryz.func67
instance:bD 67 (type_of% @c67):=⟨@c67⟩
theorem aUd (p0 r) (h:uB p0=some r):Sc 277 [aL enS p0] [rW 9 1 enS r]:=by
 have i1:=inv fun m s=>∃v4:Int,∃r7:List ByteArray,(s.t 0=vL enS p0∧s.t 3=vR 100007 1∧s.t 4=vI v4∧s.h 100007=(1,oW 9 1 enS r7))∧jK p0 m v4 r7=some r
 have e1:=@jK.eq_2
 unfold uB at h
 exact sgo 22 [.tmp 2] Tryz.func277
instance:bD 277 (type_of% @aUd):=⟨@aUd⟩
theorem aQa (p0 r) (h:aAd p0=some r):Sc 180 [aX (M.Site.en p0)] [(true,M.Site.rs r)]:=by
 unfold aAd at h
 exact sgo 18 [.cell 2 95] Tryz.func180
instance:bD 180 (type_of% @aQa):=⟨@aQa⟩
theorem c68 (p0 r) (h:yU p0=some r):Sc 68 [aL M.Site.en p0] [rW 95 4 M.Site.en r]:=by
 have i1:=inv fun m s=>∃v4:Int,∃r7:List M.Site,(s.t 0=vL M.Site.en p0∧s.t 3=vR 100007 1∧s.t 4=vI v4∧s.h 100007=(1,oW 95 4 M.Site.en r7))∧mB p0 m v4 r7=some r
 have e1:=@mB.eq_2
 unfold yU at h
 exact sgo 23 [.tmp 2] Tryz.func68
instance:bD 68 (type_of% @c68):=⟨@c68⟩
theorem aTF (p0 r) (h:tV p0=some r):Sc 359 [aX (M.aJ.en p0)] [(true,M.aJ.rs r)]:=by
 unfold tV at h
 exact sgo 11 [.cell 2 295] Tryz.func359
instance:bD 359 (type_of% @aTF):=⟨@aTF⟩
theorem aTQ (p0 r) (h:qS p0=some r):Sc 279 [aL M.aJ.en p0] [rW 295 2 M.aJ.en r]:=by
 have i1:=inv fun m s=>∃v4:Int,∃r7:List M.aJ,(s.t 0=vL M.aJ.en p0∧s.t 3=vR 100007 1∧s.t 4=vI v4∧s.h 100007=(1,oW 295 2 M.aJ.en r7))∧iX p0 m v4 r7=some r
 have e1:=@iX.eq_2
 unfold qS at h
 exact sgo 23 [.tmp 2] Tryz.func279
instance:bD 279 (type_of% @aTQ):=⟨@aTQ⟩
theorem aRc (p0 r) (h:wY p0=some r):Sc 181 [aX (M.Server.en p0)] [(true,M.Server.rs r)]:=by
 unfold wY at h
 exact sgo 17 [.cell 2 102] Tryz.func181
instance:bD 181 (type_of% @aRc):=⟨@aRc⟩
theorem c69 (p0 r) (h:sY p0=some r):Sc 69 [aL M.Server.en p0] [rW 102 5 M.Server.en r]:=by
 have i1:=inv fun m s=>∃v4:Int,∃r7:List M.Server,(s.t 0=vL M.Server.en p0∧s.t 3=vR 100007 1∧s.t 4=vI v4∧s.h 100007=(1,oW 102 5 M.Server.en r7))∧jP p0 m v4 r7=some r
 have e1:=@jP.eq_2
 unfold sY at h
 exact sgo 23 [.tmp 2] Tryz.func69
instance:bD 69 (type_of% @c69):=⟨@c69⟩
theorem c17 (p0 r) (h:lP p0=some r):Sc 17 [aX (M.World.en p0)] [(true,M.World.rs r)]:=by
 unfold lP at h
 exact sgo 41 [.cell 2 37] Tryz.func17
instance:bD 17 (type_of% @c17):=⟨@c17⟩
end Go.Proofs.YtnhpbpnhmapeeaaGreat.gen
