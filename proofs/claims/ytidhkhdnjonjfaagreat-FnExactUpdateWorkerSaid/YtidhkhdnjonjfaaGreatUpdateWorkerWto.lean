/-
  Helper text. No conditions.
-/
import Derived.Test.YtidhkhdnjonjfaaGreatUpdateWorkerTi
set_option linter.unusedVariables false
set_option linter.unusedSimpArgs false
namespace Go.Proofs.YtidhkhdnjonjfaaGreat.gen
open Go Go.Sh
set_option maxRecDepth 20000
set_option maxHeartbeats 4000000
theorem aXB (p0 r) (h:lN p0=some r):Sc 430 [aX (M.Registration.en p0)] [(true,M.Registration.rs r)]:=by
 unfold lN at h
 exact sgo 17 [.cell 2 25] Tryz.func430
instance:bA 430 (type_of% @aXB):=⟨@aXB⟩
theorem aWy (p0 r) (h:xZ p0=some r):Sc 491 [aL enB p0] [rW 5 1 enB r]:=by
 have i1:=inv fun m s=>∃v4:Int,∃r7:List Int,(s.t 0=vL enB p0∧s.t 3=vR 100007 1∧s.t 4=vI v4∧s.h 100007=(1,oW 5 1 enB r7))∧nU p0 m v4 r7=some r
 have e1:=@nU.eq_2
 unfold xZ at h
 exact sgo 22 [.tmp 2] Tryz.func491
instance:bA 491 (type_of% @aWy):=⟨@aWy⟩
theorem aW7 (p0 r) (h:tM p0=some r):Sc 556 [aX (M.Response.en p0)] [(true,M.Response.rs r)]:=by
 unfold tM at h
 exact sgo 21 [.cell 2 219] Tryz.func556
instance:bA 556 (type_of% @aW7):=⟨@aW7⟩
theorem aXt (p0 r) (h:zN p0=some r):Sc 550 [aX (M.Cached.en p0)] [(true,M.Cached.rs r)]:=by
 unfold zN at h
 exact sgo 15 [.cell 2 221] Tryz.func550
instance:bA 550 (type_of% @aXt):=⟨@aXt⟩
theorem aU5 (p0 r) (h:xC p0=some r):Sc 540 [aL M.Cached.en p0] [rW 221 7 M.Cached.en r]:=by
 have i1:=inv fun m s=>∃v4:Int,∃r7:List M.Cached,(s.t 0=vL M.Cached.en p0∧s.t 3=vR 100007 1∧s.t 4=vI v4∧s.h 100007=(1,oW 221 7 M.Cached.en r7))∧kJ p0 m v4 r7=some r
 have e1:=@kJ.eq_2
 unfold xC at h
 exact sgo 23 [.tmp 2] Tryz.func540
instance:bA 540 (type_of% @aU5):=⟨@aU5⟩
theorem aVr (p0 r) (h:aAk p0=some r):Sc 519 [aX (M.Cache.en p0)] [(true,M.Cache.rs r)]:=by
 unfold aAk at h
 exact sgo 12 [.cell 2 212] Tryz.func519
instance:bA 519 (type_of% @aVr):=⟨@aVr⟩
theorem aXO (p0 r) (h:zW p0=some r):Sc 489 [aL M.Cache.en p0] [rW 212 2 M.Cache.en r]:=by
 have i1:=inv fun m s=>∃v4:Int,∃r7:List M.Cache,(s.t 0=vL M.Cache.en p0∧s.t 3=vR 100007 1∧s.t 4=vI v4∧s.h 100007=(1,oW 212 2 M.Cache.en r7))∧mF p0 m v4 r7=some r
 have e1:=@mF.eq_2
 unfold zW at h
 exact sgo 23 [.tmp 2] Tryz.func489
instance:bA 489 (type_of% @aXO):=⟨@aXO⟩
theorem aXM (p0 r) (h:tT p0=some r):Sc 431 [aX (M.aA.en p0)] [(true,M.aA.rs r)]:=by
 unfold tT at h
 exact sgo 9 [.cell 2 28] Tryz.func431
instance:bA 431 (type_of% @aXM):=⟨@aXM⟩
theorem aXe (p0 r) (h:aBT p0=some r):Sc 494 [aX (M.Key.en p0)] [(true,M.Key.rs r)]:=by
 unfold aBT at h
 exact sgo 14 [.cell 2 225] Tryz.func494
instance:bA 494 (type_of% @aXe):=⟨@aXe⟩
theorem aWf (p0 r) (h:aA9 p0=some r):Sc 551 [aX (M.Field.en p0)] [(true,M.Field.rs r)]:=by
 unfold aA9 at h
 exact sgo 11 [.cell 2 267] Tryz.func551
instance:bA 551 (type_of% @aWf):=⟨@aWf⟩
theorem aYS (p0 r) (h:aAJ p0=some r):Sc 542 [aL M.Field.en p0] [rW 267 2 M.Field.en r]:=by
 have i1:=inv fun m s=>∃v4:Int,∃r7:List M.Field,(s.t 0=vL M.Field.en p0∧s.t 3=vR 100007 1∧s.t 4=vI v4∧s.h 100007=(1,oW 267 2 M.Field.en r7))∧lR p0 m v4 r7=some r
 have e1:=@lR.eq_2
 unfold aAJ at h
 exact sgo 23 [.tmp 2] Tryz.func542
instance:bA 542 (type_of% @aYS):=⟨@aYS⟩
theorem aVP (p0 r) (h:zL p0=some r):Sc 523 [aX (M.aU.en p0)] [(true,M.aU.rs r)]:=by
 unfold zL at h
 exact sgo 9 [.cell 2 148] Tryz.func523
instance:bA 523 (type_of% @aVP):=⟨@aVP⟩
theorem aYZ (p0 r) (h:aBc p0=some r):Sc 493 [aX (M.Item.en p0)] [(true,M.Item.rs r)]:=by
 unfold aBc at h
 exact sgo 13 [.cell 2 227] Tryz.func493
instance:bA 493 (type_of% @aYZ):=⟨@aYZ⟩
theorem aXU (p0 r) (h:aAj p0=some r):Sc 434 [aL M.Item.en p0] [rW 227 4 M.Item.en r]:=by
 have i1:=inv fun m s=>∃v4:Int,∃r7:List M.Item,(s.t 0=vL M.Item.en p0∧s.t 3=vR 100007 1∧s.t 4=vI v4∧s.h 100007=(1,oW 227 4 M.Item.en r7))∧nW p0 m v4 r7=some r
 have e1:=@nW.eq_2
 unfold aAj at h
 exact sgo 23 [.tmp 2] Tryz.func434
instance:bA 434 (type_of% @aXU):=⟨@aXU⟩
theorem aUC (p0 r) (h:sM p0=some r):Sc 327 [aX (M.aJ.en p0)] [(true,M.aJ.rs r)]:=by
 unfold sM at h
 exact sgo 15 [.cell 2 37] Tryz.func327
instance:bA 327 (type_of% @aUC):=⟨@aUC⟩
theorem aUn (p0 r) (h:zC p0=some r):Sc 520 [aL M.aJ.en p0] [rW 37 3 M.aJ.en r]:=by
 have i1:=inv fun m s=>∃v4:Int,∃r7:List M.aJ,(s.t 0=vL M.aJ.en p0∧s.t 3=vR 100007 1∧s.t 4=vI v4∧s.h 100007=(1,oW 37 3 M.aJ.en r7))∧mB p0 m v4 r7=some r
 have e1:=@mB.eq_2
 unfold zC at h
 exact sgo 23 [.tmp 2] Tryz.func520
instance:bA 520 (type_of% @aUn):=⟨@aUn⟩
theorem aYW (p0 r) (h:uM p0=some r):Sc 541 [aX (M.aD.en p0)] [(true,M.aD.rs r)]:=by
 unfold uM at h
 exact sgo 11 [.cell 2 239] Tryz.func541
instance:bA 541 (type_of% @aYW):=⟨@aYW⟩
theorem aUN (p0 r) (h:rL p0=some r):Sc 521 [aL M.aD.en p0] [rW 239 2 M.aD.en r]:=by
 have i1:=inv fun m s=>∃v4:Int,∃r7:List M.aD,(s.t 0=vL M.aD.en p0∧s.t 3=vR 100007 1∧s.t 4=vI v4∧s.h 100007=(1,oW 239 2 M.aD.en r7))∧jB p0 m v4 r7=some r
 have e1:=@jB.eq_2
 unfold rL at h
 exact sgo 23 [.tmp 2] Tryz.func521
instance:bA 521 (type_of% @aUN):=⟨@aUN⟩
theorem aUx (p0 r) (h:sV p0=some r):Sc 490 [aX (M.Database.en p0)] [(true,M.Database.rs r)]:=by
 unfold sV at h
 exact sgo 19 [.cell 2 32] Tryz.func490
instance:bA 490 (type_of% @aUx):=⟨@aUx⟩
theorem aU2 (p0 r) (h:aCH p0=some r):Sc 432 [aX (M.bB.en p0)] [(true,M.bB.rs r)]:=by
 unfold aCH at h
 exact sgo 16 [.cell 2 34] Tryz.func432
instance:bA 432 (type_of% @aU2):=⟨@aU2⟩
theorem aXb (p0 r) (h:aAx p0=some r):Sc 436 [aX (M.aW.en p0)] [(true,M.aW.rs r)]:=by
 unfold aAx at h
 exact sgo 21 [.cell 2 359] Tryz.func436
instance:bA 436 (type_of% @aXb):=⟨@aXb⟩
theorem aUm (p0 r) (h:uB p0=some r):Sc 329 [aL M.aW.en p0] [rW 359 7 M.aW.en r]:=by
 have i1:=inv fun m s=>∃v4:Int,∃r7:List M.aW,(s.t 0=vL M.aW.en p0∧s.t 3=vR 100007 1∧s.t 4=vI v4∧s.h 100007=(1,oW 359 7 M.aW.en r7))∧mG p0 m v4 r7=some r
 have e1:=@mG.eq_2
 unfold uB at h
 exact sgo 23 [.tmp 2] Tryz.func329
instance:bA 329 (type_of% @aUm):=⟨@aUm⟩
theorem aV5 (p0 r) (h:yX p0=some r):Sc 522 [aX (M.aV.en p0)] [(true,M.aV.rs r)]:=by
 unfold yX at h
 exact sgo 15 [.cell 2 40] Tryz.func522
instance:bA 522 (type_of% @aV5):=⟨@aV5⟩
theorem aUJ (p0 r) (h:aCB p0=some r):Sc 492 [aX (M.Sync.en p0)] [(true,M.Sync.rs r)]:=by
 unfold aCB at h
 exact sgo 15 [.cell 2 42] Tryz.func492
instance:bA 492 (type_of% @aUJ):=⟨@aUJ⟩
theorem aVk (p0 r) (h:xD p0=some r):Sc 433 [aX (M.aE.en p0)] [(true,M.aE.rs r)]:=by
 unfold xD at h
 exact sgo 16 [.cell 2 44] Tryz.func433
instance:bA 433 (type_of% @aVk):=⟨@aVk⟩
theorem aUj (p0 r) (h:zY p0=some r):Sc 323 [aX (M.Bucket.en p0)] [(true,M.Bucket.rs r)]:=by
 unfold zY at h
 exact sgo 33 [.cell 2 46] Tryz.func323
instance:bA 323 (type_of% @aUj):=⟨@aUj⟩
theorem aXf (p0 r) (h:xS p0=some r):Sc 178 [aL M.Bucket.en p0] [rW 46 24 M.Bucket.en r]:=by
 have i1:=inv fun m s=>∃v4:Int,∃r7:List M.Bucket,(s.t 0=vL M.Bucket.en p0∧s.t 3=vR 100007 1∧s.t 4=vI v4∧s.h 100007=(1,oW 46 24 M.Bucket.en r7))∧kW p0 m v4 r7=some r
 have e1:=@kW.eq_2
 unfold xS at h
 exact sgo 23 [.tmp 2] Tryz.func178
instance:bA 178 (type_of% @aXf):=⟨@aXf⟩
theorem c74 (p0 r) (h:wS p0=some r):Sc 74 [aX (M.aC.en p0)] [(true,M.aC.rs r)]:=by
 unfold wS at h
 exact sgo 9 [.cell 2 85] Tryz.func74
instance:bA 74 (type_of% @c74):=⟨@c74⟩
theorem aVn (p0 r) (h:yS p0=some r):Sc 183 [aX (M.aN.en p0)] [(true,M.aN.rs r)]:=by
 unfold yS at h
 exact sgo 11 [.cell 2 276] Tryz.func183
instance:bA 183 (type_of% @aVn):=⟨@aVn⟩
theorem c80 (p0 r) (h:wO p0=some r):Sc 80 [aL M.aN.en p0] [rW 276 2 M.aN.en r]:=by
 have i1:=inv fun m s=>∃v4:Int,∃r7:List M.aN,(s.t 0=vL M.aN.en p0∧s.t 3=vR 100007 1∧s.t 4=vI v4∧s.h 100007=(1,oW 276 2 M.aN.en r7))∧kV p0 m v4 r7=some r
 have e1:=@kV.eq_2
 unfold wO at h
 exact sgo 23 [.tmp 2] Tryz.func80
instance:bA 80 (type_of% @c80):=⟨@c80⟩
theorem aXv (p0 r) (h:aBA p0=some r):Sc 330 [aX (M.Instr.en p0)] [(true,M.Instr.rs r)]:=by
 unfold aBA at h
 exact sgo 17 [.cell 2 406] Tryz.func330
instance:bA 330 (type_of% @aXv):=⟨@aXv⟩
theorem aWb (p0 r) (h:aAK p0=some r):Sc 184 [aL M.Instr.en p0] [rW 406 4 M.Instr.en r]:=by
 have i1:=inv fun m s=>∃v4:Int,∃r7:List M.Instr,(s.t 0=vL M.Instr.en p0∧s.t 3=vR 100007 1∧s.t 4=vI v4∧s.h 100007=(1,oW 406 4 M.Instr.en r7))∧lQ p0 m v4 r7=some r
 have e1:=@lQ.eq_2
 unfold aAK at h
 exact sgo 23 [.tmp 2] Tryz.func184
instance:bA 184 (type_of% @aWb):=⟨@aWb⟩
theorem aWx (p0 r) (h:aBp p0=some r):Sc 185 [aL enI p0] [rW 3 1 enI r]:=by
 have i1:=inv fun m s=>∃v4:Int,∃r7:List Int,(s.t 0=vL enI p0∧s.t 3=vR 100007 1∧s.t 4=vI v4∧s.h 100007=(1,oW 3 1 enI r7))∧pJ p0 m v4 r7=some r
 have e1:=@pJ.eq_2
 unfold aBp at h
 exact sgo 22 [.tmp 2] Tryz.func185
instance:bA 185 (type_of% @aWx):=⟨@aWx⟩
theorem c81 (p0 r) (h:wJ p0=some r):Sc 81 [aX (M.Machine.en p0)] [(true,M.Machine.rs r)]:=by
 unfold wJ at h
 exact sgo 25 [.cell 2 101] Tryz.func81
instance:bA 81 (type_of% @c81):=⟨@c81⟩
theorem c23 (p0 r) (h:aBf p0=some r):Sc 23 [aX (M.bJ.en p0)] [(true,M.bJ.rs r)]:=by
 unfold aBf at h
 exact sgo 25 [.cell 2 103] Tryz.func23
instance:bA 23 (type_of% @c23):=⟨@c23⟩
theorem c75 (p0 r) (h:aAu p0=some r):Sc 75 [aL M.bJ.en p0] [rW 103 11 M.bJ.en r]:=by
 have i1:=inv fun m s=>∃v4:Int,∃r7:List M.bJ,(s.t 0=vL M.bJ.en p0∧s.t 3=vR 100007 1∧s.t 4=vI v4∧s.h 100007=(1,oW 103 11 M.bJ.en r7))∧nR p0 m v4 r7=some r
 have e1:=@nR.eq_2
 unfold aAu at h
 exact sgo 23 [.tmp 2] Tryz.func75
instance:bA 75 (type_of% @c75):=⟨@c75⟩
theorem aXk (p0 r) (h:aBs p0=some r):Sc 324 [aX (M.dA.en p0)] [(true,M.dA.rs r)]:=by
 unfold aBs at h
 exact sgo 17 [.cell 2 396] Tryz.func324
instance:bA 324 (type_of% @aXk):=⟨@aXk⟩
theorem aVQ (p0 r) (h:aAl p0=some r):Sc 179 [aL M.dA.en p0] [rW 396 4 M.dA.en r]:=by
 have i1:=inv fun m s=>∃v4:Int,∃r7:List M.dA,(s.t 0=vL M.dA.en p0∧s.t 3=vR 100007 1∧s.t 4=vI v4∧s.h 100007=(1,oW 396 4 M.dA.en r7))∧nH p0 m v4 r7=some r
 have e1:=@nH.eq_2
 unfold aAl at h
 exact sgo 23 [.tmp 2] Tryz.func179
instance:bA 179 (type_of% @aVQ):=⟨@aVQ⟩
theorem c76 (p0 r) (h:rE p0=some r):Sc 76 [aX (M.aP.en p0)] [(true,M.aP.rs r)]:=by
 unfold rE at h
 exact sgo 9 [.cell 2 89] Tryz.func76
instance:bA 76 (type_of% @c76):=⟨@c76⟩
theorem aUQ (p0 r) (h:aB3 p0=some r):Sc 325 [aX (M.fW.en p0)] [(true,M.fW.rs r)]:=by
 unfold aB3 at h
 exact sgo 14 [.cell 2 399] Tryz.func325
instance:bA 325 (type_of% @aUQ):=⟨@aUQ⟩
theorem aUD (p0 r) (h:aAe p0=some r):Sc 180 [aL M.fW.en p0] [rW 399 3 M.fW.en r]:=by
 have i1:=inv fun m s=>∃v4:Int,∃r7:List M.fW,(s.t 0=vL M.fW.en p0∧s.t 3=vR 100007 1∧s.t 4=vI v4∧s.h 100007=(1,oW 399 3 M.fW.en r7))∧nJ p0 m v4 r7=some r
 have e1:=@nJ.eq_2
 unfold aAe at h
 exact sgo 23 [.tmp 2] Tryz.func180
instance:bA 180 (type_of% @aUD):=⟨@aUD⟩
theorem c77 (p0 r) (h:wC p0=some r):Sc 77 [aX (M.Channel.en p0)] [(true,M.Channel.rs r)]:=by
 unfold wC at h
 exact sgo 9 [.cell 2 92] Tryz.func77
instance:bA 77 (type_of% @c77):=⟨@c77⟩
theorem aUe (p0 r) (h:xO p0=some r):Sc 326 [aL enS p0] [rW 9 1 enS r]:=by
 have i1:=inv fun m s=>∃v4:Int,∃r7:List ByteArray,(s.t 0=vL enS p0∧s.t 3=vR 100007 1∧s.t 4=vI v4∧s.h 100007=(1,oW 9 1 enS r7))∧kL p0 m v4 r7=some r
 have e1:=@kL.eq_2
 unfold xO at h
 exact sgo 22 [.tmp 2] Tryz.func326
instance:bA 326 (type_of% @aUe):=⟨@aUe⟩
theorem aVN (p0 r) (h:aBz p0=some r):Sc 181 [aX (M.Site.en p0)] [(true,M.Site.rs r)]:=by
 unfold aBz at h
 exact sgo 18 [.cell 2 180] Tryz.func181
instance:bA 181 (type_of% @aVN):=⟨@aVN⟩
theorem c78 (p0 r) (h:aA1 p0=some r):Sc 78 [aL M.Site.en p0] [rW 180 4 M.Site.en r]:=by
 have i1:=inv fun m s=>∃v4:Int,∃r7:List M.Site,(s.t 0=vL M.Site.en p0∧s.t 3=vR 100007 1∧s.t 4=vI v4∧s.h 100007=(1,oW 180 4 M.Site.en r7))∧nS p0 m v4 r7=some r
 have e1:=@nS.eq_2
 unfold aA1 at h
 exact sgo 23 [.tmp 2] Tryz.func78
instance:bA 78 (type_of% @c78):=⟨@c78⟩
theorem aW6 (p0 r) (h:xI p0=some r):Sc 435 [aX (M.aK.en p0)] [(true,M.aK.rs r)]:=by
 unfold xI at h
 exact sgo 11 [.cell 2 431] Tryz.func435
instance:bA 435 (type_of% @aW6):=⟨@aW6⟩
theorem aVj (p0 r) (h:uD p0=some r):Sc 328 [aL M.aK.en p0] [rW 431 2 M.aK.en r]:=by
 have i1:=inv fun m s=>∃v4:Int,∃r7:List M.aK,(s.t 0=vL M.aK.en p0∧s.t 3=vR 100007 1∧s.t 4=vI v4∧s.h 100007=(1,oW 431 2 M.aK.en r7))∧jZ p0 m v4 r7=some r
 have e1:=@jZ.eq_2
 unfold uD at h
 exact sgo 23 [.tmp 2] Tryz.func328
instance:bA 328 (type_of% @aVj):=⟨@aVj⟩
theorem aYR (p0 r) (h:aAH p0=some r):Sc 182 [aX (M.Server.en p0)] [(true,M.Server.rs r)]:=by
 unfold aAH at h
 exact sgo 17 [.cell 2 274] Tryz.func182
instance:bA 182 (type_of% @aYR):=⟨@aYR⟩
theorem c79 (p0 r) (h:wP p0=some r):Sc 79 [aL M.Server.en p0] [rW 274 5 M.Server.en r]:=by
 have i1:=inv fun m s=>∃v4:Int,∃r7:List M.Server,(s.t 0=vL M.Server.en p0∧s.t 3=vR 100007 1∧s.t 4=vI v4∧s.h 100007=(1,oW 274 5 M.Server.en r7))∧kR p0 m v4 r7=some r
 have e1:=@kR.eq_2
 unfold wP at h
 exact sgo 23 [.tmp 2] Tryz.func79
instance:bA 79 (type_of% @c79):=⟨@c79⟩
theorem c22 (p0 r) (h:nG p0=some r):Sc 22 [aX (M.World.en p0)] [(true,M.World.rs r)]:=by
 unfold nG at h
 exact sgo 41 [.cell 2 96] Tryz.func22
instance:bA 22 (type_of% @c22):=⟨@c22⟩
end Go.Proofs.YtidhkhdnjonjfaaGreat.gen
