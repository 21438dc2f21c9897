/-
  Helper text. No conditions.
-/
import Derived.Test.YtidhkhdnjonjfaaGreatReadNoteTi
set_option linter.unusedVariables false
set_option linter.unusedSimpArgs false
namespace Go.Proofs.YtidhkhdnjonjfaaGreat.gen
open Go Go.Sh
set_option maxRecDepth 20000
set_option maxHeartbeats 4000000
theorem aQI (p0 r) (h:gY p0=some r):Sc 430 [aX (M.Registration.en p0)] [(true,M.Registration.rs r)]:=by
 unfold gY at h
 exact sgo 17 [.cell 2 25] Tryz.func430
instance:bC 430 (type_of% @aQI):=⟨@aQI⟩
theorem aQB (p0 r) (h:oR p0=some r):Sc 491 [aL enB p0] [rW 5 1 enB r]:=by
 have i1:=inv fun m s=>∃v4:Int,∃r7:List Int,(s.t 0=vL enB p0∧s.t 3=vR 100007 1∧s.t 4=vI v4∧s.h 100007=(1,oW 5 1 enB r7))∧jI p0 m v4 r7=some r
 have e1:=@jI.eq_2
 unfold oR at h
 exact sgo 22 [.tmp 2] Tryz.func491
instance:bC 491 (type_of% @aQB):=⟨@aQB⟩
theorem aQG (p0 r) (h:lZ p0=some r):Sc 556 [aX (M.Response.en p0)] [(true,M.Response.rs r)]:=by
 unfold lZ at h
 exact sgo 21 [.cell 2 219] Tryz.func556
instance:bC 556 (type_of% @aQG):=⟨@aQG⟩
theorem aQq (p0 r) (h:rC p0=some r):Sc 550 [aX (M.Cached.en p0)] [(true,M.Cached.rs r)]:=by
 unfold rC at h
 exact sgo 15 [.cell 2 221] Tryz.func550
instance:bC 550 (type_of% @aQq):=⟨@aQq⟩
theorem aOv (p0 r) (h:nX p0=some r):Sc 540 [aL M.Cached.en p0] [rW 221 7 M.Cached.en r]:=by
 have i1:=inv fun m s=>∃v4:Int,∃r7:List M.Cached,(s.t 0=vL M.Cached.en p0∧s.t 3=vR 100007 1∧s.t 4=vI v4∧s.h 100007=(1,oW 221 7 M.Cached.en r7))∧gB p0 m v4 r7=some r
 have e1:=@gB.eq_2
 unfold nX at h
 exact sgo 23 [.tmp 2] Tryz.func540
instance:bC 540 (type_of% @aOv):=⟨@aOv⟩
theorem aPS (p0 r) (h:tK p0=some r):Sc 519 [aX (M.Cache.en p0)] [(true,M.Cache.rs r)]:=by
 unfold tK at h
 exact sgo 12 [.cell 2 212] Tryz.func519
instance:bC 519 (type_of% @aPS):=⟨@aPS⟩
theorem aQU (p0 r) (h:rH p0=some r):Sc 489 [aL M.Cache.en p0] [rW 212 2 M.Cache.en r]:=by
 have i1:=inv fun m s=>∃v4:Int,∃r7:List M.Cache,(s.t 0=vL M.Cache.en p0∧s.t 3=vR 100007 1∧s.t 4=vI v4∧s.h 100007=(1,oW 212 2 M.Cache.en r7))∧iG p0 m v4 r7=some r
 have e1:=@iG.eq_2
 unfold rH at h
 exact sgo 23 [.tmp 2] Tryz.func489
instance:bC 489 (type_of% @aQU):=⟨@aQU⟩
theorem aQS (p0 r) (h:mD p0=some r):Sc 431 [aX (M.bF.en p0)] [(true,M.bF.rs r)]:=by
 unfold mD at h
 exact sgo 9 [.cell 2 28] Tryz.func431
instance:bC 431 (type_of% @aQS):=⟨@aQS⟩
theorem aQg (p0 r) (h:vC p0=some r):Sc 494 [aX (M.Key.en p0)] [(true,M.Key.rs r)]:=by
 unfold vC at h
 exact sgo 14 [.cell 2 225] Tryz.func494
instance:bC 494 (type_of% @aQg):=⟨@aQg⟩
theorem aPy (p0 r) (h:uG p0=some r):Sc 551 [aX (M.Field.en p0)] [(true,M.Field.rs r)]:=by
 unfold uG at h
 exact sgo 11 [.cell 2 267] Tryz.func551
instance:bC 551 (type_of% @aPy):=⟨@aPy⟩
theorem aRG (p0 r) (h:rV p0=some r):Sc 542 [aL M.Field.en p0] [rW 267 2 M.Field.en r]:=by
 have i1:=inv fun m s=>∃v4:Int,∃r7:List M.Field,(s.t 0=vL M.Field.en p0∧s.t 3=vR 100007 1∧s.t 4=vI v4∧s.h 100007=(1,oW 267 2 M.Field.en r7))∧hT p0 m v4 r7=some r
 have e1:=@hT.eq_2
 unfold rV at h
 exact sgo 23 [.tmp 2] Tryz.func542
instance:bC 542 (type_of% @aRG):=⟨@aRG⟩
theorem aPA (p0 r) (h:pY p0=some r):Sc 523 [aX (M.aA.en p0)] [(true,M.aA.rs r)]:=by
 unfold pY at h
 exact sgo 9 [.cell 2 148] Tryz.func523
instance:bC 523 (type_of% @aPA):=⟨@aPA⟩
theorem aRK (p0 r) (h:vK p0=some r):Sc 493 [aX (M.Item.en p0)] [(true,M.Item.rs r)]:=by
 unfold vK at h
 exact sgo 13 [.cell 2 227] Tryz.func493
instance:bC 493 (type_of% @aRK):=⟨@aRK⟩
theorem aQY (p0 r) (h:tJ p0=some r):Sc 434 [aL M.Item.en p0] [rW 227 4 M.Item.en r]:=by
 have i1:=inv fun m s=>∃v4:Int,∃r7:List M.Item,(s.t 0=vL M.Item.en p0∧s.t 3=vR 100007 1∧s.t 4=vI v4∧s.h 100007=(1,oW 227 4 M.Item.en r7))∧jM p0 m v4 r7=some r
 have e1:=@jM.eq_2
 unfold tJ at h
 exact sgo 23 [.tmp 2] Tryz.func434
instance:bC 434 (type_of% @aQY):=⟨@aQY⟩
theorem aOB (p0 r) (h:lQ p0=some r):Sc 327 [aX (M.aC.en p0)] [(true,M.aC.rs r)]:=by
 unfold lQ at h
 exact sgo 15 [.cell 2 37] Tryz.func327
instance:bC 327 (type_of% @aOB):=⟨@aOB⟩
theorem aOj (p0 r) (h:pQ p0=some r):Sc 520 [aL M.aC.en p0] [rW 37 3 M.aC.en r]:=by
 have i1:=inv fun m s=>∃v4:Int,∃r7:List M.aC,(s.t 0=vL M.aC.en p0∧s.t 3=vR 100007 1∧s.t 4=vI v4∧s.h 100007=(1,oW 37 3 M.aC.en r7))∧iD p0 m v4 r7=some r
 have e1:=@iD.eq_2
 unfold pQ at h
 exact sgo 23 [.tmp 2] Tryz.func520
instance:bC 520 (type_of% @aOj):=⟨@aOj⟩
theorem aRH (p0 r) (h:mO p0=some r):Sc 541 [aX (M.aE.en p0)] [(true,M.aE.rs r)]:=by
 unfold mO at h
 exact sgo 11 [.cell 2 239] Tryz.func541
instance:bC 541 (type_of% @aRH):=⟨@aRH⟩
theorem aOK (p0 r) (h:kY p0=some r):Sc 521 [aL M.aE.en p0] [rW 239 2 M.aE.en r]:=by
 have i1:=inv fun m s=>∃v4:Int,∃r7:List M.aE,(s.t 0=vL M.aE.en p0∧s.t 3=vR 100007 1∧s.t 4=vI v4∧s.h 100007=(1,oW 239 2 M.aE.en r7))∧eX p0 m v4 r7=some r
 have e1:=@eX.eq_2
 unfold kY at h
 exact sgo 23 [.tmp 2] Tryz.func521
instance:bC 521 (type_of% @aOK):=⟨@aOK⟩
theorem aOq (p0 r) (h:lT p0=some r):Sc 490 [aX (M.Database.en p0)] [(true,M.Database.rs r)]:=by
 unfold lT at h
 exact sgo 19 [.cell 2 32] Tryz.func490
instance:bC 490 (type_of% @aOq):=⟨@aOq⟩
theorem aOt (p0 r) (h:wM p0=some r):Sc 432 [aX (M.fQ.en p0)] [(true,M.fQ.rs r)]:=by
 unfold wM at h
 exact sgo 16 [.cell 2 34] Tryz.func432
instance:bC 432 (type_of% @aOt):=⟨@aOt⟩
theorem aQf (p0 r) (h:tU p0=some r):Sc 436 [aX (M.bM.en p0)] [(true,M.bM.rs r)]:=by
 unfold tU at h
 exact sgo 21 [.cell 2 359] Tryz.func436
instance:bC 436 (type_of% @aQf):=⟨@aQf⟩
theorem aOi (p0 r) (h:mH p0=some r):Sc 329 [aL M.bM.en p0] [rW 359 7 M.bM.en r]:=by
 have i1:=inv fun m s=>∃v4:Int,∃r7:List M.bM,(s.t 0=vL M.bM.en p0∧s.t 3=vR 100007 1∧s.t 4=vI v4∧s.h 100007=(1,oW 359 7 M.bM.en r7))∧iJ p0 m v4 r7=some r
 have e1:=@iJ.eq_2
 unfold mH at h
 exact sgo 23 [.tmp 2] Tryz.func329
instance:bC 329 (type_of% @aOi):=⟨@aOi⟩
theorem aPa (p0 r) (h:pJ p0=some r):Sc 522 [aX (M.bH.en p0)] [(true,M.bH.rs r)]:=by
 unfold pJ at h
 exact sgo 15 [.cell 2 40] Tryz.func522
instance:bC 522 (type_of% @aPa):=⟨@aPa⟩
theorem aOH (p0 r) (h:wH p0=some r):Sc 492 [aX (M.Sync.en p0)] [(true,M.Sync.rs r)]:=by
 unfold wH at h
 exact sgo 15 [.cell 2 42] Tryz.func492
instance:bC 492 (type_of% @aOH):=⟨@aOH⟩
theorem aPQ (p0 r) (h:nY p0=some r):Sc 433 [aX (M.aK.en p0)] [(true,M.aK.rs r)]:=by
 unfold nY at h
 exact sgo 16 [.cell 2 44] Tryz.func433
instance:bC 433 (type_of% @aPQ):=⟨@aPQ⟩
theorem aOf (p0 r) (h:rK p0=some r):Sc 323 [aX (M.Bucket.en p0)] [(true,M.Bucket.rs r)]:=by
 unfold rK at h
 exact sgo 33 [.cell 2 46] Tryz.func323
instance:bC 323 (type_of% @aOf):=⟨@aOf⟩
theorem aQh (p0 r) (h:oN p0=some r):Sc 178 [aL M.Bucket.en p0] [rW 46 24 M.Bucket.en r]:=by
 have i1:=inv fun m s=>∃v4:Int,∃r7:List M.Bucket,(s.t 0=vL M.Bucket.en p0∧s.t 3=vR 100007 1∧s.t 4=vI v4∧s.h 100007=(1,oW 46 24 M.Bucket.en r7))∧gQ p0 m v4 r7=some r
 have e1:=@gQ.eq_2
 unfold oN at h
 exact sgo 23 [.tmp 2] Tryz.func178
instance:bC 178 (type_of% @aQh):=⟨@aQh⟩
theorem c74 (p0 r) (h:nU p0=some r):Sc 74 [aX (M.aM.en p0)] [(true,M.aM.rs r)]:=by
 unfold nU at h
 exact sgo 9 [.cell 2 85] Tryz.func74
instance:bC 74 (type_of% @c74):=⟨@c74⟩
theorem aPR (p0 r) (h:pD p0=some r):Sc 183 [aX (M.aT.en p0)] [(true,M.aT.rs r)]:=by
 unfold pD at h
 exact sgo 11 [.cell 2 276] Tryz.func183
instance:bC 183 (type_of% @aPR):=⟨@aPR⟩
theorem c80 (p0 r) (h:nR p0=some r):Sc 80 [aL M.aT.en p0] [rW 276 2 M.aT.en r]:=by
 have i1:=inv fun m s=>∃v4:Int,∃r7:List M.aT,(s.t 0=vL M.aT.en p0∧s.t 3=vR 100007 1∧s.t 4=vI v4∧s.h 100007=(1,oW 276 2 M.aT.en r7))∧gP p0 m v4 r7=some r
 have e1:=@gP.eq_2
 unfold nR at h
 exact sgo 23 [.tmp 2] Tryz.func80
instance:bC 80 (type_of% @c80):=⟨@c80⟩
theorem aQt (p0 r) (h:uH p0=some r):Sc 330 [aX (M.Instr.en p0)] [(true,M.Instr.rs r)]:=by
 unfold uH at h
 exact sgo 17 [.cell 2 406] Tryz.func330
instance:bC 330 (type_of% @aQt):=⟨@aQt⟩
theorem aPt (p0 r) (h:rX p0=some r):Sc 184 [aL M.Instr.en p0] [rW 406 4 M.Instr.en r]:=by
 have i1:=inv fun m s=>∃v4:Int,∃r7:List M.Instr,(s.t 0=vL M.Instr.en p0∧s.t 3=vR 100007 1∧s.t 4=vI v4∧s.h 100007=(1,oW 406 4 M.Instr.en r7))∧hP p0 m v4 r7=some r
 have e1:=@hP.eq_2
 unfold rX at h
 exact sgo 23 [.tmp 2] Tryz.func184
instance:bC 184 (type_of% @aPt):=⟨@aPt⟩
theorem aQA (p0 r) (h:vX p0=some r):Sc 185 [aL enI p0] [rW 3 1 enI r]:=by
 have i1:=inv fun m s=>∃v4:Int,∃r7:List Int,(s.t 0=vL enI p0∧s.t 3=vR 100007 1∧s.t 4=vI v4∧s.h 100007=(1,oW 3 1 enI r7))∧kK p0 m v4 r7=some r
 have e1:=@kK.eq_2
 unfold vX at h
 exact sgo 22 [.tmp 2] Tryz.func185
instance:bC 185 (type_of% @aQA):=⟨@aQA⟩
theorem c81 (p0 r) (h:nN p0=some r):Sc 81 [aX (M.Machine.en p0)] [(true,M.Machine.rs r)]:=by
 unfold nN at h
 exact sgo 25 [.cell 2 101] Tryz.func81
instance:bC 81 (type_of% @c81):=⟨@c81⟩
theorem c23 (p0 r) (h:kO p0=some r):Sc 23 [aX (M.gX.en p0)] [(true,M.gX.rs r)]:=by
 unfold kO at h
 exact sgo 25 [.cell 2 103] Tryz.func23
instance:bC 23 (type_of% @c23):=⟨@c23⟩
theorem c75 (p0 r) (h:tR p0=some r):Sc 75 [aL M.gX.en p0] [rW 103 11 M.gX.en r]:=by
 have i1:=inv fun m s=>∃v4:Int,∃r7:List M.gX,(s.t 0=vL M.gX.en p0∧s.t 3=vR 100007 1∧s.t 4=vI v4∧s.h 100007=(1,oW 103 11 M.gX.en r7))∧jF p0 m v4 r7=some r
 have e1:=@jF.eq_2
 unfold tR at h
 exact sgo 23 [.tmp 2] Tryz.func75
instance:bC 75 (type_of% @c75):=⟨@c75⟩
theorem aQk (p0 r) (h:vZ p0=some r):Sc 324 [aX (M.kI.en p0)] [(true,M.kI.rs r)]:=by
 unfold vZ at h
 exact sgo 17 [.cell 2 396] Tryz.func324
instance:bC 324 (type_of% @aQk):=⟨@aQk⟩
theorem aPB (p0 r) (h:tL p0=some r):Sc 179 [aL M.kI.en p0] [rW 396 4 M.kI.en r]:=by
 have i1:=inv fun m s=>∃v4:Int,∃r7:List M.kI,(s.t 0=vL M.kI.en p0∧s.t 3=vR 100007 1∧s.t 4=vI v4∧s.h 100007=(1,oW 396 4 M.kI.en r7))∧iZ p0 m v4 r7=some r
 have e1:=@iZ.eq_2
 unfold tL at h
 exact sgo 23 [.tmp 2] Tryz.func179
instance:bC 179 (type_of% @aPB):=⟨@aPB⟩
theorem c76 (p0 r) (h:kV p0=some r):Sc 76 [aX (M.bA.en p0)] [(true,M.bA.rs r)]:=by
 unfold kV at h
 exact sgo 9 [.cell 2 89] Tryz.func76
instance:bC 76 (type_of% @c76):=⟨@c76⟩
theorem aOO (p0 r) (h:wC p0=some r):Sc 325 [aX (M.pC.en p0)] [(true,M.pC.rs r)]:=by
 unfold wC at h
 exact sgo 14 [.cell 2 399] Tryz.func325
instance:bC 325 (type_of% @aOO):=⟨@aOO⟩
theorem aOC (p0 r) (h:tC p0=some r):Sc 180 [aL M.pC.en p0] [rW 399 3 M.pC.en r]:=by
 have i1:=inv fun m s=>∃v4:Int,∃r7:List M.pC,(s.t 0=vL M.pC.en p0∧s.t 3=vR 100007 1∧s.t 4=vI v4∧s.h 100007=(1,oW 399 3 M.pC.en r7))∧jA p0 m v4 r7=some r
 have e1:=@jA.eq_2
 unfold tC at h
 exact sgo 23 [.tmp 2] Tryz.func180
instance:bC 180 (type_of% @aOC):=⟨@aOC⟩
theorem c77 (p0 r) (h:nK p0=some r):Sc 77 [aX (M.Channel.en p0)] [(true,M.Channel.rs r)]:=by
 unfold nK at h
 exact sgo 9 [.cell 2 92] Tryz.func77
instance:bC 77 (type_of% @c77):=⟨@c77⟩
theorem aOa (p0 r) (h:oK p0=some r):Sc 326 [aL enS p0] [rW 9 1 enS r]:=by
 have i1:=inv fun m s=>∃v4:Int,∃r7:List ByteArray,(s.t 0=vL enS p0∧s.t 3=vR 100007 1∧s.t 4=vI v4∧s.h 100007=(1,oW 9 1 enS r7))∧gC p0 m v4 r7=some r
 have e1:=@gC.eq_2
 unfold oK at h
 exact sgo 22 [.tmp 2] Tryz.func326
instance:bC 326 (type_of% @aOa):=⟨@aOa⟩
theorem aO6 (p0 r) (h:wA p0=some r):Sc 181 [aX (M.Site.en p0)] [(true,M.Site.rs r)]:=by
 unfold wA at h
 exact sgo 18 [.cell 2 180] Tryz.func181
instance:bC 181 (type_of% @aO6):=⟨@aO6⟩
theorem c78 (p0 r) (h:tY p0=some r):Sc 78 [aL M.Site.en p0] [rW 180 4 M.Site.en r]:=by
 have i1:=inv fun m s=>∃v4:Int,∃r7:List M.Site,(s.t 0=vL M.Site.en p0∧s.t 3=vR 100007 1∧s.t 4=vI v4∧s.h 100007=(1,oW 180 4 M.Site.en r7))∧jG p0 m v4 r7=some r
 have e1:=@jG.eq_2
 unfold tY at h
 exact sgo 23 [.tmp 2] Tryz.func78
instance:bC 78 (type_of% @c78):=⟨@c78⟩
theorem aQF (p0 r) (h:oD p0=some r):Sc 435 [aX (M.aO.en p0)] [(true,M.aO.rs r)]:=by
 unfold oD at h
 exact sgo 11 [.cell 2 431] Tryz.func435
instance:bC 435 (type_of% @aQF):=⟨@aQF⟩
theorem aPP (p0 r) (h:mJ p0=some r):Sc 328 [aL M.aO.en p0] [rW 431 2 M.aO.en r]:=by
 have i1:=inv fun m s=>∃v4:Int,∃r7:List M.aO,(s.t 0=vL M.aO.en p0∧s.t 3=vR 100007 1∧s.t 4=vI v4∧s.h 100007=(1,oW 431 2 M.aO.en r7))∧fP p0 m v4 r7=some r
 have e1:=@fP.eq_2
 unfold mJ at h
 exact sgo 23 [.tmp 2] Tryz.func328
instance:bC 328 (type_of% @aPP):=⟨@aPP⟩
theorem aRF (p0 r) (h:rR p0=some r):Sc 182 [aX (M.Server.en p0)] [(true,M.Server.rs r)]:=by
 unfold rR at h
 exact sgo 17 [.cell 2 274] Tryz.func182
instance:bC 182 (type_of% @aRF):=⟨@aRF⟩
theorem c79 (p0 r) (h:nS p0=some r):Sc 79 [aL M.Server.en p0] [rW 274 5 M.Server.en r]:=by
 have i1:=inv fun m s=>∃v4:Int,∃r7:List M.Server,(s.t 0=vL M.Server.en p0∧s.t 3=vR 100007 1∧s.t 4=vI v4∧s.h 100007=(1,oW 274 5 M.Server.en r7))∧gK p0 m v4 r7=some r
 have e1:=@gK.eq_2
 unfold nS at h
 exact sgo 23 [.tmp 2] Tryz.func79
instance:bC 79 (type_of% @c79):=⟨@c79⟩
theorem c22 (p0 r) (h:lR p0=some r):Sc 22 [aX (M.World.en p0)] [(true,M.World.rs r)]:=by
 unfold lR at h
 exact sgo 41 [.cell 2 96] Tryz.func22
instance:bC 22 (type_of% @c22):=⟨@c22⟩
end Go.Proofs.YtidhkhdnjonjfaaGreat.gen
