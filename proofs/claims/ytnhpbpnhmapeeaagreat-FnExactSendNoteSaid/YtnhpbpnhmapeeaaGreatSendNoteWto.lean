/-
  Helper text. No conditions.
-/
import Derived.Test.YtnhpbpnhmapeeaaGreatSendNoteTi
namespace Go.Proofs.YtnhpbpnhmapeeaaGreat.gen
open Go Go.Sh
set_option linter.unusedVariables false
set_option linter.unusedSimpArgs false
set_option maxRecDepth 20000
set_option maxHeartbeats 4000000
theorem aTW (p0 r) (h:kE p0=some r):Sc 354 [aX (M.Registration.en p0)] [(true,M.Registration.rs r)]:=by
 unfold kE at h
 exact sgo 17 [.cell 2 107] Tryz.func354
instance:bG 354 (type_of% @aTW):=⟨@aTW⟩
theorem aS3 (p0 r) (h:uR p0=some r):Sc 417 [aL enB p0] [rW 5 1 enB r]:=by
 have i1:=inv fun m s=>∃v4:Int,∃r7:List Int,(s.t 0=vL enB p0∧s.t 3=vR 100007 1∧s.t 4=vI v4∧s.h 100007=(1,oW 5 1 enB r7))∧mJ p0 m v4 r7=some r
 have e1:=@mJ.eq_2
 unfold uR at h
 exact sgo 22 [.tmp 2] Tryz.func417
instance:bG 417 (type_of% @aS3):=⟨@aS3⟩
theorem aRQ (p0 r) (h:qJ p0=some r):Sc 492 [aX (M.Response.en p0)] [(true,M.Response.rs r)]:=by
 unfold qJ at h
 exact sgo 21 [.cell 2 137] Tryz.func492
instance:bG 492 (type_of% @aRQ):=⟨@aRQ⟩
theorem aS1 (p0 r) (h:wK p0=some r):Sc 487 [aX (M.Cached.en p0)] [(true,M.Cached.rs r)]:=by
 unfold wK at h
 exact sgo 15 [.cell 2 368] Tryz.func487
instance:bG 487 (type_of% @aS1):=⟨@aS1⟩
theorem aUp (p0 r) (h:tU p0=some r):Sc 477 [aL M.Cached.en p0] [rW 368 7 M.Cached.en r]:=by
 have i1:=inv fun m s=>∃v4:Int,∃r7:List M.Cached,(s.t 0=vL M.Cached.en p0∧s.t 3=vR 100007 1∧s.t 4=vI v4∧s.h 100007=(1,oW 368 7 M.Cached.en r7))∧jG p0 m v4 r7=some r
 have e1:=@jG.eq_2
 unfold tU at h
 exact sgo 23 [.tmp 2] Tryz.func477
instance:bG 477 (type_of% @aUp):=⟨@aUp⟩
theorem aRP (p0 r) (h:yK p0=some r):Sc 456 [aX (M.Cache.en p0)] [(true,M.Cache.rs r)]:=by
 unfold yK at h
 exact sgo 12 [.cell 2 286] Tryz.func456
instance:bG 456 (type_of% @aRP):=⟨@aRP⟩
theorem aSh (p0 r) (h:wS p0=some r):Sc 415 [aL M.Cache.en p0] [rW 286 2 M.Cache.en r]:=by
 have i1:=inv fun m s=>∃v4:Int,∃r7:List M.Cache,(s.t 0=vL M.Cache.en p0∧s.t 3=vR 100007 1∧s.t 4=vI v4∧s.h 100007=(1,oW 286 2 M.Cache.en r7))∧kS p0 m v4 r7=some r
 have e1:=@kS.eq_2
 unfold wS at h
 exact sgo 23 [.tmp 2] Tryz.func415
instance:bG 415 (type_of% @aSh):=⟨@aSh⟩
theorem aUY (p0 r) (h:qO p0=some r):Sc 355 [aX (M.aU.en p0)] [(true,M.aU.rs r)]:=by
 unfold qO at h
 exact sgo 9 [.cell 2 110] Tryz.func355
instance:bG 355 (type_of% @aUY):=⟨@aUY⟩
theorem aR7 (p0 r) (h:aAG p0=some r):Sc 420 [aX (M.Key.en p0)] [(true,M.Key.rs r)]:=by
 unfold aAG at h
 exact sgo 14 [.cell 2 174] Tryz.func420
instance:bG 420 (type_of% @aR7):=⟨@aR7⟩
theorem aTr (p0 r) (h:zJ p0=some r):Sc 488 [aX (M.Field.en p0)] [(true,M.Field.rs r)]:=by
 unfold zJ at h
 exact sgo 11 [.cell 2 417] Tryz.func488
instance:bG 488 (type_of% @aTr):=⟨@aTr⟩
theorem aSM (p0 r) (h:xD p0=some r):Sc 479 [aL M.Field.en p0] [rW 417 2 M.Field.en r]:=by
 have i1:=inv fun m s=>∃v4:Int,∃r7:List M.Field,(s.t 0=vL M.Field.en p0∧s.t 3=vR 100007 1∧s.t 4=vI v4∧s.h 100007=(1,oW 417 2 M.Field.en r7))∧kJ p0 m v4 r7=some r
 have e1:=@kJ.eq_2
 unfold xD at h
 exact sgo 23 [.tmp 2] Tryz.func479
instance:bG 479 (type_of% @aSM):=⟨@aSM⟩
theorem aTh (p0 r) (h:wH p0=some r):Sc 460 [aX (M.aH.en p0)] [(true,M.aH.rs r)]:=by
 unfold wH at h
 exact sgo 9 [.cell 2 355] Tryz.func460
instance:bG 460 (type_of% @aTh):=⟨@aTh⟩
theorem aSw (p0 r) (h:aAQ p0=some r):Sc 419 [aX (M.Item.en p0)] [(true,M.Item.rs r)]:=by
 unfold aAQ at h
 exact sgo 13 [.cell 2 357] Tryz.func419
instance:bG 419 (type_of% @aSw):=⟨@aSw⟩
theorem aTB (p0 r) (h:yJ p0=some r):Sc 358 [aL M.Item.en p0] [rW 357 4 M.Item.en r]:=by
 have i1:=inv fun m s=>∃v4:Int,∃r7:List M.Item,(s.t 0=vL M.Item.en p0∧s.t 3=vR 100007 1∧s.t 4=vI v4∧s.h 100007=(1,oW 357 4 M.Item.en r7))∧mO p0 m v4 r7=some r
 have e1:=@mO.eq_2
 unfold yJ at h
 exact sgo 23 [.tmp 2] Tryz.func358
instance:bG 358 (type_of% @aTB):=⟨@aTB⟩
theorem aSb (p0 r) (h:pP p0=some r):Sc 278 [aX (M.aE.en p0)] [(true,M.aE.rs r)]:=by
 unfold pP at h
 exact sgo 15 [.cell 2 98] Tryz.func278
instance:bG 278 (type_of% @aSb):=⟨@aSb⟩
theorem aTa (p0 r) (h:wB p0=some r):Sc 457 [aL M.aE.en p0] [rW 98 3 M.aE.en r]:=by
 have i1:=inv fun m s=>∃v4:Int,∃r7:List M.aE,(s.t 0=vL M.aE.en p0∧s.t 3=vR 100007 1∧s.t 4=vI v4∧s.h 100007=(1,oW 98 3 M.aE.en r7))∧kP p0 m v4 r7=some r
 have e1:=@kP.eq_2
 unfold wB at h
 exact sgo 23 [.tmp 2] Tryz.func457
instance:bG 457 (type_of% @aTa):=⟨@aTa⟩
theorem aTF (p0 r) (h:rH p0=some r):Sc 478 [aX (M.aD.en p0)] [(true,M.aD.rs r)]:=by
 unfold rH at h
 exact sgo 11 [.cell 2 383] Tryz.func478
instance:bG 478 (type_of% @aTF):=⟨@aTF⟩
theorem aRJ (p0 r) (h:pA p0=some r):Sc 458 [aL M.aD.en p0] [rW 383 2 M.aD.en r]:=by
 have i1:=inv fun m s=>∃v4:Int,∃r7:List M.aD,(s.t 0=vL M.aD.en p0∧s.t 3=vR 100007 1∧s.t 4=vI v4∧s.h 100007=(1,oW 383 2 M.aD.en r7))∧hZ p0 m v4 r7=some r
 have e1:=@hZ.eq_2
 unfold pA at h
 exact sgo 23 [.tmp 2] Tryz.func458
instance:bG 458 (type_of% @aRJ):=⟨@aRJ⟩
theorem aT1 (p0 r) (h:pT p0=some r):Sc 416 [aX (M.Database.en p0)] [(true,M.Database.rs r)]:=by
 unfold pT at h
 exact sgo 19 [.cell 2 114] Tryz.func416
instance:bG 416 (type_of% @aT1):=⟨@aT1⟩
theorem aRK (p0 r) (h:aA1 p0=some r):Sc 356 [aX (M.bD.en p0)] [(true,M.bD.rs r)]:=by
 unfold aA1 at h
 exact sgo 16 [.cell 2 116] Tryz.func356
instance:bG 356 (type_of% @aRK):=⟨@aRK⟩
theorem aRh (p0 r) (h:yV p0=some r):Sc 360 [aX (M.aV.en p0)] [(true,M.aV.rs r)]:=by
 unfold yV at h
 exact sgo 21 [.cell 2 272] Tryz.func360
instance:bG 360 (type_of% @aRh):=⟨@aRh⟩
theorem aT5 (p0 r) (h:qX p0=some r):Sc 280 [aL M.aV.en p0] [rW 272 7 M.aV.en r]:=by
 have i1:=inv fun m s=>∃v4:Int,∃r7:List M.aV,(s.t 0=vL M.aV.en p0∧s.t 3=vR 100007 1∧s.t 4=vI v4∧s.h 100007=(1,oW 272 7 M.aV.en r7))∧kV p0 m v4 r7=some r
 have e1:=@kV.eq_2
 unfold qX at h
 exact sgo 23 [.tmp 2] Tryz.func280
instance:bG 280 (type_of% @aT5):=⟨@aT5⟩
theorem aUM (p0 r) (h:vV p0=some r):Sc 459 [aX (M.aN.en p0)] [(true,M.aN.rs r)]:=by
 unfold vV at h
 exact sgo 15 [.cell 2 118] Tryz.func459
instance:bG 459 (type_of% @aUM):=⟨@aUM⟩
theorem aRU (p0 r) (h:aAu p0=some r):Sc 418 [aX (M.Sync.en p0)] [(true,M.Sync.rs r)]:=by
 unfold aAu at h
 exact sgo 15 [.cell 2 120] Tryz.func418
instance:bG 418 (type_of% @aRU):=⟨@aRU⟩
theorem aU2 (p0 r) (h:tV p0=some r):Sc 357 [aX (M.aC.en p0)] [(true,M.aC.rs r)]:=by
 unfold tV at h
 exact sgo 16 [.cell 2 122] Tryz.func357
instance:bG 357 (type_of% @aU2):=⟨@aU2⟩
theorem aSF (p0 r) (h:wU p0=some r):Sc 274 [aX (M.aA.en p0)] [(true,M.aA.rs r)]:=by
 unfold wU at h
 exact sgo 33 [.cell 2 124] Tryz.func274
instance:bG 274 (type_of% @aSF):=⟨@aSF⟩
theorem aSo (p0 r) (h:uJ p0=some r):Sc 177 [aL M.aA.en p0] [rW 124 24 M.aA.en r]:=by
 have i1:=inv fun m s=>∃v4:Int,∃r7:List M.aA,(s.t 0=vL M.aA.en p0∧s.t 3=vR 100007 1∧s.t 4=vI v4∧s.h 100007=(1,oW 124 24 M.aA.en r7))∧jR p0 m v4 r7=some r
 have e1:=@jR.eq_2
 unfold uJ at h
 exact sgo 23 [.tmp 2] Tryz.func177
instance:bG 177 (type_of% @aSo):=⟨@aSo⟩
theorem c64 (p0 r) (h:tL p0=some r):Sc 64 [aX (M.aF.en p0)] [(true,M.aF.rs r)]:=by
 unfold tL at h
 exact sgo 9 [.cell 2 26] Tryz.func64
instance:bG 64 (type_of% @c64):=⟨@c64⟩
theorem aSB (p0 r) (h:vM p0=some r):Sc 212 [aX (M.aM.en p0)] [(true,M.aM.rs r)]:=by
 unfold vM at h
 exact sgo 11 [.cell 2 222] Tryz.func212
instance:bG 212 (type_of% @aSB):=⟨@aSB⟩
theorem c94 (p0 r) (h:tG p0=some r):Sc 94 [aL M.aM.en p0] [rW 222 2 M.aM.en r]:=by
 have i1:=inv fun m s=>∃v4:Int,∃r7:List M.aM,(s.t 0=vL M.aM.en p0∧s.t 3=vR 100007 1∧s.t 4=vI v4∧s.h 100007=(1,oW 222 2 M.aM.en r7))∧jQ p0 m v4 r7=some r
 have e1:=@jQ.eq_2
 unfold tG at h
 exact sgo 23 [.tmp 2] Tryz.func94
instance:bG 94 (type_of% @c94):=⟨@c94⟩
theorem aUz (p0 r) (h:zK p0=some r):Sc 116 [aX (M.Instr.en p0)] [(true,M.Instr.rs r)]:=by
 unfold zK at h
 exact sgo 17 [.cell 2 196] Tryz.func116
instance:bG 116 (type_of% @aUz):=⟨@aUz⟩
theorem c30 (p0 r) (h:xE p0=some r):Sc 30 [aL M.Instr.en p0] [rW 196 4 M.Instr.en r]:=by
 have i1:=inv fun m s=>∃v4:Int,∃r7:List M.Instr,(s.t 0=vL M.Instr.en p0∧s.t 3=vR 100007 1∧s.t 4=vI v4∧s.h 100007=(1,oW 196 4 M.Instr.en r7))∧kI p0 m v4 r7=some r
 have e1:=@kI.eq_2
 unfold xE at h
 exact sgo 23 [.tmp 2] Tryz.func30
instance:bG 30 (type_of% @c30):=⟨@c30⟩
theorem aTp (p0 r) (h:aAd p0=some r):Sc 213 [aL enI p0] [rW 3 1 enI r]:=by
 have i1:=inv fun m s=>∃v4:Int,∃r7:List Int,(s.t 0=vL enI p0∧s.t 3=vR 100007 1∧s.t 4=vI v4∧s.h 100007=(1,oW 3 1 enI r7))∧oC p0 m v4 r7=some r
 have e1:=@oC.eq_2
 unfold aAd at h
 exact sgo 22 [.tmp 2] Tryz.func213
instance:bG 213 (type_of% @aTp):=⟨@aTp⟩
theorem c95 (p0 r) (h:tC p0=some r):Sc 95 [aX (M.Machine.en p0)] [(true,M.Machine.rs r)]:=by
 unfold tC at h
 exact sgo 25 [.cell 2 78] Tryz.func95
instance:bG 95 (type_of% @c95):=⟨@c95⟩
theorem c23 (p0 r) (h:lK p0=some r):Sc 23 [aX (M.bJ.en p0)] [(true,M.bJ.rs r)]:=by
 unfold lK at h
 exact sgo 25 [.cell 2 80] Tryz.func23
instance:bG 23 (type_of% @c23):=⟨@c23⟩
theorem c65 (p0 r) (h:yS p0=some r):Sc 65 [aL M.bJ.en p0] [rW 80 11 M.bJ.en r]:=by
 have i1:=inv fun m s=>∃v4:Int,∃r7:List M.bJ,(s.t 0=vL M.bJ.en p0∧s.t 3=vR 100007 1∧s.t 4=vI v4∧s.h 100007=(1,oW 80 11 M.bJ.en r7))∧mG p0 m v4 r7=some r
 have e1:=@mG.eq_2
 unfold yS at h
 exact sgo 23 [.tmp 2] Tryz.func65
instance:bG 65 (type_of% @c65):=⟨@c65⟩
theorem aT4 (p0 r) (h:aAg p0=some r):Sc 275 [aX (M.cT.en p0)] [(true,M.cT.rs r)]:=by
 unfold aAg at h
 exact sgo 17 [.cell 2 144] Tryz.func275
instance:bG 275 (type_of% @aT4):=⟨@aT4⟩
theorem aUL (p0 r) (h:yL p0=some r):Sc 178 [aL M.cT.en p0] [rW 144 4 M.cT.en r]:=by
 have i1:=inv fun m s=>∃v4:Int,∃r7:List M.cT,(s.t 0=vL M.cT.en p0∧s.t 3=vR 100007 1∧s.t 4=vI v4∧s.h 100007=(1,oW 144 4 M.cT.en r7))∧lW p0 m v4 r7=some r
 have e1:=@lW.eq_2
 unfold yL at h
 exact sgo 23 [.tmp 2] Tryz.func178
instance:bG 178 (type_of% @aUL):=⟨@aUL⟩
theorem c66 (p0 r) (h:oS p0=some r):Sc 66 [aX (M.aW.en p0)] [(true,M.aW.rs r)]:=by
 unfold oS at h
 exact sgo 9 [.cell 2 30] Tryz.func66
instance:bG 66 (type_of% @c66):=⟨@c66⟩
theorem aUJ (p0 r) (h:aAn p0=some r):Sc 276 [aX (M.eO.en p0)] [(true,M.eO.rs r)]:=by
 unfold aAn at h
 exact sgo 14 [.cell 2 232] Tryz.func276
instance:bG 276 (type_of% @aUJ):=⟨@aUJ⟩
theorem aSI (p0 r) (h:yF p0=some r):Sc 179 [aL M.eO.en p0] [rW 232 3 M.eO.en r]:=by
 have i1:=inv fun m s=>∃v4:Int,∃r7:List M.eO,(s.t 0=vL M.eO.en p0∧s.t 3=vR 100007 1∧s.t 4=vI v4∧s.h 100007=(1,oW 232 3 M.eO.en r7))∧lZ p0 m v4 r7=some r
 have e1:=@lZ.eq_2
 unfold yF at h
 exact sgo 23 [.tmp 2] Tryz.func179
instance:bG 179 (type_of% @aSI):=⟨@aSI⟩
theorem c67 (p0 r) (h:sW p0=some r):Sc 67 [aX (M.Channel.en p0)] [(true,M.Channel.rs r)]:=by
 unfold sW at h
 exact sgo 9 [.cell 2 33] Tryz.func67
instance:bG 67 (type_of% @c67):=⟨@c67⟩
theorem aU0 (p0 r) (h:uG p0=some r):Sc 277 [aL enS p0] [rW 9 1 enS r]:=by
 have i1:=inv fun m s=>∃v4:Int,∃r7:List ByteArray,(s.t 0=vL enS p0∧s.t 3=vR 100007 1∧s.t 4=vI v4∧s.h 100007=(1,oW 9 1 enS r7))∧jI p0 m v4 r7=some r
 have e1:=@jI.eq_2
 unfold uG at h
 exact sgo 22 [.tmp 2] Tryz.func277
instance:bG 277 (type_of% @aU0):=⟨@aU0⟩
theorem aRI (p0 r) (h:aAk p0=some r):Sc 180 [aX (M.Site.en p0)] [(true,M.Site.rs r)]:=by
 unfold aAk at h
 exact sgo 18 [.cell 2 95] Tryz.func180
instance:bG 180 (type_of% @aRI):=⟨@aRI⟩
theorem c68 (p0 r) (h:yZ p0=some r):Sc 68 [aL M.Site.en p0] [rW 95 4 M.Site.en r]:=by
 have i1:=inv fun m s=>∃v4:Int,∃r7:List M.Site,(s.t 0=vL M.Site.en p0∧s.t 3=vR 100007 1∧s.t 4=vI v4∧s.h 100007=(1,oW 95 4 M.Site.en r7))∧mH p0 m v4 r7=some r
 have e1:=@mH.eq_2
 unfold yZ at h
 exact sgo 23 [.tmp 2] Tryz.func68
instance:bG 68 (type_of% @c68):=⟨@c68⟩
theorem aTm (p0 r) (h:uA p0=some r):Sc 359 [aX (M.aO.en p0)] [(true,M.aO.rs r)]:=by
 unfold uA at h
 exact sgo 11 [.cell 2 295] Tryz.func359
instance:bG 359 (type_of% @aTm):=⟨@aTm⟩
theorem aTx (p0 r) (h:rA p0=some r):Sc 279 [aL M.aO.en p0] [rW 295 2 M.aO.en r]:=by
 have i1:=inv fun m s=>∃v4:Int,∃r7:List M.aO,(s.t 0=vL M.aO.en p0∧s.t 3=vR 100007 1∧s.t 4=vI v4∧s.h 100007=(1,oW 295 2 M.aO.en r7))∧iU p0 m v4 r7=some r
 have e1:=@iU.eq_2
 unfold rA at h
 exact sgo 23 [.tmp 2] Tryz.func279
instance:bG 279 (type_of% @aTx):=⟨@aTx⟩
theorem aSE (p0 r) (h:xB p0=some r):Sc 181 [aX (M.Server.en p0)] [(true,M.Server.rs r)]:=by
 unfold xB at h
 exact sgo 17 [.cell 2 102] Tryz.func181
instance:bG 181 (type_of% @aSE):=⟨@aSE⟩
theorem c69 (p0 r) (h:tH p0=some r):Sc 69 [aL M.Server.en p0] [rW 102 5 M.Server.en r]:=by
 have i1:=inv fun m s=>∃v4:Int,∃r7:List M.Server,(s.t 0=vL M.Server.en p0∧s.t 3=vR 100007 1∧s.t 4=vI v4∧s.h 100007=(1,oW 102 5 M.Server.en r7))∧jM p0 m v4 r7=some r
 have e1:=@jM.eq_2
 unfold tH at h
 exact sgo 23 [.tmp 2] Tryz.func69
instance:bG 69 (type_of% @c69):=⟨@c69⟩
theorem c17 (p0 r) (h:lV p0=some r):Sc 17 [aX (M.World.en p0)] [(true,M.World.rs r)]:=by
 unfold lV at h
 exact sgo 41 [.cell 2 37] Tryz.func17
instance:bG 17 (type_of% @c17):=⟨@c17⟩
end Go.Proofs.YtnhpbpnhmapeeaaGreat.gen
