/-
  Helper text. No conditions.
-/
import Derived.Test.YtecmnmaaopkdfaaGreatPageLockTi
namespace Go.Proofs.YtecmnmaaopkdfaaGreat.gen
open Go Go.Sh
set_option linter.unusedVariables false
set_option linter.unusedSimpArgs false
set_option maxRecDepth 20000
set_option maxHeartbeats 4000000
theorem aSm (p0 p1 r) (h : jS p0 p1 = some r) : Sc 263 [aX (M.Registration.en p0), aX (M.Registration.en p1)] [rB r] := by
 unfold jS at h
 exact sgo 25 [.tmp 4] Tryz.func263
instance : bC 263 (type_of% @aSm) := ⟨@aSm⟩
theorem aS6 (p0 p1 r) (h : tW p0 p1 = some r) : Sc 331 [aL enB p0, aL enB p1] [rB r] := by
 have i1 := inv fun m s => ∃ v5 : Int, (s.t 0 = vL enB p0 ∧ s.t 1 = vL enB p1 ∧ s.t 5 = vI v5) ∧ lF p0 p1 m v5 = some r
 have e1 := @lF.eq_2
 unfold tW at h
 exact sgo 26 [.tmp 4] Tryz.func331
instance : bC 331 (type_of% @aS6) := ⟨@aS6⟩
theorem aRR (p0 p1 r) (h : qW p0 p1 = some r) : Sc 417 [aX (M.Response.en p0), aX (M.Response.en p1)] [rB r] := by
 unfold qW at h
 exact sgo 31 [.tmp 4] Tryz.func417
instance : bC 417 (type_of% @aRR) := ⟨@aRR⟩
theorem aRC (p0 p1 r) (h : uS p0 p1 = some r) : Sc 412 [aX (M.Cached.en p0), aX (M.Cached.en p1)] [rB r] := by
 unfold uS at h
 exact sgo 21 [.tmp 4] Tryz.func412
instance : bC 412 (type_of% @aRC) := ⟨@aRC⟩
theorem aQS (p0 p1 r) (h : sK p0 p1 = some r) : Sc 399 [aL M.Cached.en p0, aL M.Cached.en p1] [rB r] := by
 have i1 := inv fun m s => ∃ v5 : Int, (s.t 0 = vL M.Cached.en p0 ∧ s.t 1 = vL M.Cached.en p1 ∧ s.t 5 = vI v5) ∧ jL p0 p1 m v5 = some r
 have e1 := @jL.eq_2
 unfold sK at h
 exact sgo 27 [.tmp 4] Tryz.func399
instance : bC 399 (type_of% @aQS) := ⟨@aQS⟩
theorem aPx (p0 p1 r) (h : yB p0 p1 = some r) : Sc 375 [aX (M.Cache.en p0), aX (M.Cache.en p1)] [rB r] := by
 unfold yB at h
 exact sgo 16 [.tmp 4] Tryz.func375
instance : bC 375 (type_of% @aPx) := ⟨@aPx⟩
theorem aQD (p0 p1 r) (h : vH p0 p1 = some r) : Sc 329 [aL M.Cache.en p0, aL M.Cache.en p1] [rB r] := by
 have i1 := inv fun m s => ∃ v5 : Int, (s.t 0 = vL M.Cache.en p0 ∧ s.t 1 = vL M.Cache.en p1 ∧ s.t 5 = vI v5) ∧ jV p0 p1 m v5 = some r
 have e1 := @jV.eq_2
 unfold vH at h
 exact sgo 27 [.tmp 4] Tryz.func329
instance : bC 329 (type_of% @aQD) := ⟨@aQD⟩
theorem aQ3 (p0 p1 r) (h : qG p0 p1 = some r) : Sc 264 [aX (M.aT.en p0), aX (M.aT.en p1)] [rB r] := by
 unfold qG at h
 exact sgo 11 [.tmp 4] Tryz.func264
instance : bC 264 (type_of% @aQ3) := ⟨@aQ3⟩
theorem aRA (p0 p1 r) (h : zJ p0 p1 = some r) : Sc 335 [aX (M.Key.en p0), aX (M.Key.en p1)] [rB r] := by
 unfold zJ at h
 exact sgo 20 [.tmp 4] Tryz.func335
instance : bC 335 (type_of% @aRA) := ⟨@aRA⟩
theorem aSE (p0 p1 r) (h : yR p0 p1 = some r) : Sc 413 [aX (M.Field.en p0), aX (M.Field.en p1)] [rB r] := by
 unfold yR at h
 exact sgo 15 [.tmp 4] Tryz.func413
instance : bC 413 (type_of% @aSE) := ⟨@aSE⟩
theorem aRO (p0 p1 r) (h : uO p0 p1 = some r) : Sc 401 [aL M.Field.en p0, aL M.Field.en p1] [rB r] := by
 have i1 := inv fun m s => ∃ v5 : Int, (s.t 0 = vL M.Field.en p0 ∧ s.t 1 = vL M.Field.en p1 ∧ s.t 5 = vI v5) ∧ kC p0 p1 m v5 = some r
 have e1 := @kC.eq_2
 unfold uO at h
 exact sgo 27 [.tmp 4] Tryz.func401
instance : bC 401 (type_of% @aRO) := ⟨@aRO⟩
theorem aRh (p0 p1 r) (h : uY p0 p1 = some r) : Sc 379 [aX (M.aU.en p0), aX (M.aU.en p1)] [rB r] := by
 unfold uY at h
 exact sgo 11 [.tmp 4] Tryz.func379
instance : bC 379 (type_of% @aRh) := ⟨@aRh⟩
theorem aS5 (p0 p1 r) (h : zS p0 p1 = some r) : Sc 334 [aX (M.Item.en p0), aX (M.Item.en p1)] [rB r] := by
 unfold zS at h
 exact sgo 17 [.tmp 4] Tryz.func334
instance : bC 334 (type_of% @aS5) := ⟨@aS5⟩
theorem aQn (p0 p1 r) (h : xJ p0 p1 = some r) : Sc 270 [aL M.Item.en p0, aL M.Item.en p1] [rB r] := by
 have i1 := inv fun m s => ∃ v5 : Int, (s.t 0 = vL M.Item.en p0 ∧ s.t 1 = vL M.Item.en p1 ∧ s.t 5 = vI v5) ∧ lJ p0 p1 m v5 = some r
 have e1 := @lJ.eq_2
 unfold xJ at h
 exact sgo 27 [.tmp 4] Tryz.func270
instance : bC 270 (type_of% @aQn) := ⟨@aQn⟩
theorem aQp (p0 p1 r) (h : oQ p0 p1 = some r) : Sc 199 [aX (M.aH.en p0), aX (M.aH.en p1)] [rB r] := by
 unfold oQ at h
 exact sgo 21 [.tmp 4] Tryz.func199
instance : bC 199 (type_of% @aQp) := ⟨@aQp⟩
theorem aQc (p0 p1 r) (h : uQ p0 p1 = some r) : Sc 376 [aL M.aH.en p0, aL M.aH.en p1] [rB r] := by
 have i1 := inv fun m s => ∃ v5 : Int, (s.t 0 = vL M.aH.en p0 ∧ s.t 1 = vL M.aH.en p1 ∧ s.t 5 = vI v5) ∧ kI p0 p1 m v5 = some r
 have e1 := @kI.eq_2
 unfold uQ at h
 exact sgo 27 [.tmp 4] Tryz.func376
instance : bC 376 (type_of% @aQc) := ⟨@aQc⟩
theorem aRB (p0 p1 r) (h : pH p0 p1 = some r) : Sc 400 [aX (M.aA.en p0), aX (M.aA.en p1)] [rB r] := by
 unfold pH at h
 exact sgo 15 [.tmp 4] Tryz.func400
instance : bC 400 (type_of% @aRB) := ⟨@aRB⟩
theorem aTU (p0 p1 r) (h : nA p0 p1 = some r) : Sc 377 [aL M.aA.en p0, aL M.aA.en p1] [rB r] := by
 have i1 := inv fun m s => ∃ v5 : Int, (s.t 0 = vL M.aA.en p0 ∧ s.t 1 = vL M.aA.en p1 ∧ s.t 5 = vI v5) ∧ hZ p0 p1 m v5 = some r
 have e1 := @hZ.eq_2
 unfold nA at h
 exact sgo 27 [.tmp 4] Tryz.func377
instance : bC 377 (type_of% @aTU) := ⟨@aTU⟩
theorem aRq (p0 p1 r) (h : pM p0 p1 = some r) : Sc 330 [aX (M.Database.en p0), aX (M.Database.en p1)] [rB r] := by
 unfold pM at h
 exact sgo 27 [.tmp 4] Tryz.func330
instance : bC 330 (type_of% @aRq) := ⟨@aRq⟩
theorem aRs (p0 p1 r) (h : aAN p0 p1 = some r) : Sc 265 [aX (M.bE.en p0), aX (M.bE.en p1)] [rB r] := by
 unfold aAN at h
 exact sgo 22 [.tmp 4] Tryz.func265
instance : bC 265 (type_of% @aRs) := ⟨@aRs⟩
theorem aSU (p0 p1 r) (h : xH p0 p1 = some r) : Sc 272 [aX (M.aW.en p0), aX (M.aW.en p1)] [rB r] := by
 unfold xH at h
 exact sgo 31 [.tmp 4] Tryz.func272
instance : bC 272 (type_of% @aSU) := ⟨@aSU⟩
theorem aSN (p0 p1 r) (h : qP p0 p1 = some r) : Sc 201 [aL M.aW.en p0, aL M.aW.en p1] [rB r] := by
 have i1 := inv fun m s => ∃ v5 : Int, (s.t 0 = vL M.aW.en p0 ∧ s.t 1 = vL M.aW.en p1 ∧ s.t 5 = vI v5) ∧ kH p0 p1 m v5 = some r
 have e1 := @kH.eq_2
 unfold qP at h
 exact sgo 27 [.tmp 4] Tryz.func201
instance : bC 201 (type_of% @aSN) := ⟨@aSN⟩
theorem aTS (p0 p1 r) (h : uV p0 p1 = some r) : Sc 378 [aX (M.aV.en p0), aX (M.aV.en p1)] [rB r] := by
 unfold uV at h
 exact sgo 21 [.tmp 4] Tryz.func378
instance : bC 378 (type_of% @aTS) := ⟨@aTS⟩
theorem aRS (p0 p1 r) (h : aAV p0 p1 = some r) : Sc 332 [aX (M.Sync.en p0), aX (M.Sync.en p1)] [rB r] := by
 unfold aAV at h
 exact sgo 21 [.tmp 4] Tryz.func332
instance : bC 332 (type_of% @aRS) := ⟨@aRS⟩
theorem aTZ (p0 p1 r) (h : sA p0 p1 = some r) : Sc 266 [aX (M.aC.en p0), aX (M.aC.en p1)] [rB r] := by
 unfold sA at h
 exact sgo 22 [.tmp 4] Tryz.func266
instance : bC 266 (type_of% @aTZ) := ⟨@aTZ⟩
theorem aTW (p0 p1 r) (h : uR p0 p1 = some r) : Sc 193 [aX (M.aE.en p0), aX (M.aE.en p1)] [rB r] := by
 unfold uR at h
 exact sgo 49 [.tmp 4] Tryz.func193
instance : bC 193 (type_of% @aTW) := ⟨@aTW⟩
theorem aQ7 (p0 p1 r) (h : sP p0 p1 = some r) : Sc 111 [aL M.aE.en p0, aL M.aE.en p1] [rB r] := by
 have i1 := inv fun m s => ∃ v5 : Int, (s.t 0 = vL M.aE.en p0 ∧ s.t 1 = vL M.aE.en p1 ∧ s.t 5 = vI v5) ∧ jA p0 p1 m v5 = some r
 have e1 := @jA.eq_2
 unfold sP at h
 exact sgo 27 [.tmp 4] Tryz.func111
instance : bC 111 (type_of% @aQ7) := ⟨@aQ7⟩
theorem c40 (p0 p1 r) (h : tC p0 p1 = some r) : Sc 40 [aX (M.aM.en p0), aX (M.aM.en p1)] [rB r] := by
 unfold tC at h
 exact sgo 11 [.tmp 4] Tryz.func40
instance : bC 40 (type_of% @c40) := ⟨@c40⟩
theorem aP4 (p0 p1 r) (h : uT p0 p1 = some r) : Sc 267 [aX (M.aN.en p0), aX (M.aN.en p1)] [rB r] := by
 unfold uT at h
 exact sgo 15 [.tmp 4] Tryz.func267
instance : bC 267 (type_of% @aP4) := ⟨@aP4⟩
theorem aST (p0 p1 r) (h : rO p0 p1 = some r) : Sc 194 [aL M.aN.en p0, aL M.aN.en p1] [rB r] := by
 have i1 := inv fun m s => ∃ v5 : Int, (s.t 0 = vL M.aN.en p0 ∧ s.t 1 = vL M.aN.en p1 ∧ s.t 5 = vI v5) ∧ jB p0 p1 m v5 = some r
 have e1 := @jB.eq_2
 unfold rO at h
 exact sgo 27 [.tmp 4] Tryz.func194
instance : bC 194 (type_of% @aST) := ⟨@aST⟩
theorem aTJ (p0 p1 r) (h : xB p0 p1 = some r) : Sc 333 [aX (M.Instr.en p0), aX (M.Instr.en p1)] [rB r] := by
 unfold xB at h
 exact sgo 25 [.tmp 4] Tryz.func333
instance : bC 333 (type_of% @aTJ) := ⟨@aTJ⟩
theorem aQM (p0 p1 r) (h : wC p0 p1 = some r) : Sc 268 [aL M.Instr.en p0, aL M.Instr.en p1] [rB r] := by
 have i1 := inv fun m s => ∃ v5 : Int, (s.t 0 = vL M.Instr.en p0 ∧ s.t 1 = vL M.Instr.en p1 ∧ s.t 5 = vI v5) ∧ kB p0 p1 m v5 = some r
 have e1 := @kB.eq_2
 unfold wC at h
 exact sgo 27 [.tmp 4] Tryz.func268
instance : bC 268 (type_of% @aQM) := ⟨@aQM⟩
theorem aTA (p0 p1 r) (h : aAQ p0 p1 = some r) : Sc 269 [aL enI p0, aL enI p1] [rB r] := by
 have i1 := inv fun m s => ∃ v5 : Int, (s.t 0 = vL enI p0 ∧ s.t 1 = vL enI p1 ∧ s.t 5 = vI v5) ∧ mY p0 p1 m v5 = some r
 have e1 := @mY.eq_2
 unfold aAQ at h
 exact sgo 26 [.tmp 4] Tryz.func269
instance : bC 269 (type_of% @aTA) := ⟨@aTA⟩
theorem aSc (p0 p1 r) (h : tK p0 p1 = some r) : Sc 195 [aX (M.Machine.en p0), aX (M.Machine.en p1)] [rB r] := by
 unfold tK at h
 exact sgo 37 [.tmp 4] Tryz.func195
instance : bC 195 (type_of% @aSc) := ⟨@aSc⟩
theorem aSZ (p0 p1 r) (h : aAp p0 p1 = some r) : Sc 112 [aX (M.bG.en p0), aX (M.bG.en p1)] [rB r] := by
 unfold aAp at h
 exact sgo 37 [.tmp 4] Tryz.func112
instance : bC 112 (type_of% @aSZ) := ⟨@aSZ⟩
theorem c41 (p0 p1 r) (h : xI p0 p1 = some r) : Sc 41 [aL M.bG.en p0, aL M.bG.en p1] [rB r] := by
 have i1 := inv fun m s => ∃ v5 : Int, (s.t 0 = vL M.bG.en p0 ∧ s.t 1 = vL M.bG.en p1 ∧ s.t 5 = vI v5) ∧ lG p0 p1 m v5 = some r
 have e1 := @lG.eq_2
 unfold xI at h
 exact sgo 27 [.tmp 4] Tryz.func41
instance : bC 41 (type_of% @c41) := ⟨@c41⟩
theorem aRY (p0 p1 r) (h : zR p0 p1 = some r) : Sc 196 [aX (M.bK.en p0), aX (M.bK.en p1)] [rB r] := by
 unfold zR at h
 exact sgo 25 [.tmp 4] Tryz.func196
instance : bC 196 (type_of% @aRY) := ⟨@aRY⟩
theorem aQJ (p0 p1 r) (h : yD p0 p1 = some r) : Sc 113 [aL M.bK.en p0, aL M.bK.en p1] [rB r] := by
 have i1 := inv fun m s => ∃ v5 : Int, (s.t 0 = vL M.bK.en p0 ∧ s.t 1 = vL M.bK.en p1 ∧ s.t 5 = vI v5) ∧ lL p0 p1 m v5 = some r
 have e1 := @lL.eq_2
 unfold yD at h
 exact sgo 27 [.tmp 4] Tryz.func113
instance : bC 113 (type_of% @aQJ) := ⟨@aQJ⟩
theorem c42 (p0 p1 r) (h : oI p0 p1 = some r) : Sc 42 [aX (M.aF.en p0), aX (M.aF.en p1)] [rB r] := by
 unfold oI at h
 exact sgo 11 [.tmp 4] Tryz.func42
instance : bC 42 (type_of% @c42) := ⟨@c42⟩
theorem aQU (p0 p1 r) (h : aAC p0 p1 = some r) : Sc 197 [aX (M.fD.en p0), aX (M.fD.en p1)] [rB r] := by
 unfold aAC at h
 exact sgo 20 [.tmp 4] Tryz.func197
instance : bC 197 (type_of% @aQU) := ⟨@aQU⟩
theorem aRa (p0 p1 r) (h : yL p0 p1 = some r) : Sc 114 [aL M.fD.en p0, aL M.fD.en p1] [rB r] := by
 have i1 := inv fun m s => ∃ v5 : Int, (s.t 0 = vL M.fD.en p0 ∧ s.t 1 = vL M.fD.en p1 ∧ s.t 5 = vI v5) ∧ lR p0 p1 m v5 = some r
 have e1 := @lR.eq_2
 unfold yL at h
 exact sgo 27 [.tmp 4] Tryz.func114
instance : bC 114 (type_of% @aRa) := ⟨@aRa⟩
theorem c43 (p0 p1 r) (h : tB p0 p1 = some r) : Sc 43 [aX (M.Channel.en p0), aX (M.Channel.en p1)] [rB r] := by
 unfold tB at h
 exact sgo 11 [.tmp 4] Tryz.func43
instance : bC 43 (type_of% @c43) := ⟨@c43⟩
theorem aR3 (p0 p1 r) (h : rU p0 p1 = some r) : Sc 198 [aL enS p0, aL enS p1] [rB r] := by
 have i1 := inv fun m s => ∃ v5 : Int, (s.t 0 = vL enS p0 ∧ s.t 1 = vL enS p1 ∧ s.t 5 = vI v5) ∧ jF p0 p1 m v5 = some r
 have e1 := @jF.eq_2
 unfold rU at h
 exact sgo 26 [.tmp 4] Tryz.func198
instance : bC 198 (type_of% @aR3) := ⟨@aR3⟩
theorem aRc (p0 p1 r) (h : aAo p0 p1 = some r) : Sc 115 [aX (M.Site.en p0), aX (M.Site.en p1)] [rB r] := by
 unfold aAo at h
 exact sgo 26 [.tmp 4] Tryz.func115
instance : bC 115 (type_of% @aRc) := ⟨@aRc⟩
theorem c44 (p0 p1 r) (h : yC p0 p1 = some r) : Sc 44 [aL M.Site.en p0, aL M.Site.en p1] [rB r] := by
 have i1 := inv fun m s => ∃ v5 : Int, (s.t 0 = vL M.Site.en p0 ∧ s.t 1 = vL M.Site.en p1 ∧ s.t 5 = vI v5) ∧ lT p0 p1 m v5 = some r
 have e1 := @lT.eq_2
 unfold yC at h
 exact sgo 27 [.tmp 4] Tryz.func44
instance : bC 44 (type_of% @c44) := ⟨@c44⟩
theorem aSy (p0 p1 r) (h : rY p0 p1 = some r) : Sc 271 [aX (M.aJ.en p0), aX (M.aJ.en p1)] [rB r] := by
 unfold rY at h
 exact sgo 15 [.tmp 4] Tryz.func271
instance : bC 271 (type_of% @aSy) := ⟨@aSy⟩
theorem aQA (p0 p1 r) (h : qI p0 p1 = some r) : Sc 200 [aL M.aJ.en p0, aL M.aJ.en p1] [rB r] := by
 have i1 := inv fun m s => ∃ v5 : Int, (s.t 0 = vL M.aJ.en p0 ∧ s.t 1 = vL M.aJ.en p1 ∧ s.t 5 = vI v5) ∧ iO p0 p1 m v5 = some r
 have e1 := @iO.eq_2
 unfold qI at h
 exact sgo 27 [.tmp 4] Tryz.func200
instance : bC 200 (type_of% @aQA) := ⟨@aQA⟩
theorem aS2 (p0 p1 r) (h : uK p0 p1 = some r) : Sc 116 [aX (M.Server.en p0), aX (M.Server.en p1)] [rB r] := by
 unfold uK at h
 exact sgo 23 [.tmp 4] Tryz.func116
instance : bC 116 (type_of% @aS2) := ⟨@aS2⟩
theorem c45 (p0 p1 r) (h : rV p0 p1 = some r) : Sc 45 [aL M.Server.en p0, aL M.Server.en p1] [rB r] := by
 have i1 := inv fun m s => ∃ v5 : Int, (s.t 0 = vL M.Server.en p0 ∧ s.t 1 = vL M.Server.en p1 ∧ s.t 5 = vI v5) ∧ jC p0 p1 m v5 = some r
 have e1 := @jC.eq_2
 unfold rV at h
 exact sgo 27 [.tmp 4] Tryz.func45
instance : bC 45 (type_of% @c45) := ⟨@c45⟩
theorem c11 (p0 p1 r) (h : kZ p0 p1 = some r) : Sc 11 [aX (M.World.en p0), aX (M.World.en p1)] [rB r] := by
 unfold kZ at h
 exact sgo 61 [.tmp 4] Tryz.func11
instance : bC 11 (type_of% @c11) := ⟨@c11⟩
end Go.Proofs.YtecmnmaaopkdfaaGreat.gen
