/-
  Helper text. No conditions.
-/
import Derived.Test.YtecmnmaaopkdfaaGreatLoadPageFileTi
namespace Go.Proofs.YtecmnmaaopkdfaaGreat.gen
open Go Go.Sh
set_option linter.unusedVariables false
set_option linter.unusedSimpArgs false
set_option maxRecDepth 20000
set_option maxHeartbeats 4000000
theorem aU5 (p0 p1 r) (h : kG p0 p1 = some r) : Sc 263 [aX (M.Registration.en p0), aX (M.Registration.en p1)] [rB r] := by
 unfold kG at h
 exact sgo 25 [.tmp 4] Tryz.func263
instance : bC 263 (type_of% @aU5) := ⟨@aU5⟩
theorem aUM (p0 p1 r) (h : vF p0 p1 = some r) : Sc 331 [aL enB p0, aL enB p1] [rB r] := by
 have i1 := inv fun m s => ∃ v5 : Int, (s.t 0 = vL enB p0 ∧ s.t 1 = vL enB p1 ∧ s.t 5 = vI v5) ∧ mF p0 p1 m v5 = some r
 have e1 := @mF.eq_2
 unfold vF at h
 exact sgo 26 [.tmp 4] Tryz.func331
instance : bC 331 (type_of% @aUM) := ⟨@aUM⟩
theorem aUh (p0 p1 r) (h : qH p0 p1 = some r) : Sc 417 [aX (M.Response.en p0), aX (M.Response.en p1)] [rB r] := by
 unfold qH at h
 exact sgo 31 [.tmp 4] Tryz.func417
instance : bC 417 (type_of% @aUh) := ⟨@aUh⟩
theorem aR8 (p0 p1 r) (h : wN p0 p1 = some r) : Sc 412 [aX (M.Cached.en p0), aX (M.Cached.en p1)] [rB r] := by
 unfold wN at h
 exact sgo 21 [.tmp 4] Tryz.func412
instance : bC 412 (type_of% @aR8) := ⟨@aR8⟩
theorem aQ8 (p0 p1 r) (h : tQ p0 p1 = some r) : Sc 399 [aL M.Cached.en p0, aL M.Cached.en p1] [rB r] := by
 have i1 := inv fun m s => ∃ v5 : Int, (s.t 0 = vL M.Cached.en p0 ∧ s.t 1 = vL M.Cached.en p1 ∧ s.t 5 = vI v5) ∧ jN p0 p1 m v5 = some r
 have e1 := @jN.eq_2
 unfold tQ at h
 exact sgo 27 [.tmp 4] Tryz.func399
instance : bC 399 (type_of% @aQ8) := ⟨@aQ8⟩
theorem aRh (p0 p1 r) (h : yR p0 p1 = some r) : Sc 375 [aX (M.Cache.en p0), aX (M.Cache.en p1)] [rB r] := by
 unfold yR at h
 exact sgo 16 [.tmp 4] Tryz.func375
instance : bC 375 (type_of% @aRh) := ⟨@aRh⟩
theorem aU6 (p0 p1 r) (h : xE p0 p1 = some r) : Sc 329 [aL M.Cache.en p0, aL M.Cache.en p1] [rB r] := by
 have i1 := inv fun m s => ∃ v5 : Int, (s.t 0 = vL M.Cache.en p0 ∧ s.t 1 = vL M.Cache.en p1 ∧ s.t 5 = vI v5) ∧ kP p0 p1 m v5 = some r
 have e1 := @kP.eq_2
 unfold xE at h
 exact sgo 27 [.tmp 4] Tryz.func329
instance : bC 329 (type_of% @aU6) := ⟨@aU6⟩
theorem aS3 (p0 p1 r) (h : qR p0 p1 = some r) : Sc 264 [aX (M.aP.en p0), aX (M.aP.en p1)] [rB r] := by
 unfold qR at h
 exact sgo 11 [.tmp 4] Tryz.func264
instance : bC 264 (type_of% @aS3) := ⟨@aS3⟩
theorem aU2 (p0 p1 r) (h : aAM p0 p1 = some r) : Sc 335 [aX (M.Key.en p0), aX (M.Key.en p1)] [rB r] := by
 unfold aAM at h
 exact sgo 20 [.tmp 4] Tryz.func335
instance : bC 335 (type_of% @aU2) := ⟨@aU2⟩
theorem aUR (p0 p1 r) (h : zW p0 p1 = some r) : Sc 413 [aX (M.Field.en p0), aX (M.Field.en p1)] [rB r] := by
 unfold zW at h
 exact sgo 15 [.tmp 4] Tryz.func413
instance : bC 413 (type_of% @aUR) := ⟨@aUR⟩
theorem aTp (p0 p1 r) (h : xP p0 p1 = some r) : Sc 401 [aL M.Field.en p0, aL M.Field.en p1] [rB r] := by
 have i1 := inv fun m s => ∃ v5 : Int, (s.t 0 = vL M.Field.en p0 ∧ s.t 1 = vL M.Field.en p1 ∧ s.t 5 = vI v5) ∧ kM p0 p1 m v5 = some r
 have e1 := @kM.eq_2
 unfold xP at h
 exact sgo 27 [.tmp 4] Tryz.func401
instance : bC 401 (type_of% @aTp) := ⟨@aTp⟩
theorem aTu (p0 p1 r) (h : wQ p0 p1 = some r) : Sc 379 [aX (M.aU.en p0), aX (M.aU.en p1)] [rB r] := by
 unfold wQ at h
 exact sgo 11 [.tmp 4] Tryz.func379
instance : bC 379 (type_of% @aTu) := ⟨@aTu⟩
theorem aUv (p0 p1 r) (h : aA1 p0 p1 = some r) : Sc 334 [aX (M.Item.en p0), aX (M.Item.en p1)] [rB r] := by
 unfold aA1 at h
 exact sgo 17 [.tmp 4] Tryz.func334
instance : bC 334 (type_of% @aUv) := ⟨@aUv⟩
theorem aUX (p0 p1 r) (h : yO p0 p1 = some r) : Sc 270 [aL M.Item.en p0, aL M.Item.en p1] [rB r] := by
 have i1 := inv fun m s => ∃ v5 : Int, (s.t 0 = vL M.Item.en p0 ∧ s.t 1 = vL M.Item.en p1 ∧ s.t 5 = vI v5) ∧ mC p0 p1 m v5 = some r
 have e1 := @mC.eq_2
 unfold yO at h
 exact sgo 27 [.tmp 4] Tryz.func270
instance : bC 270 (type_of% @aUX) := ⟨@aUX⟩
theorem aRj (p0 p1 r) (h : pP p0 p1 = some r) : Sc 199 [aX (M.aG.en p0), aX (M.aG.en p1)] [rB r] := by
 unfold pP at h
 exact sgo 21 [.tmp 4] Tryz.func199
instance : bC 199 (type_of% @aRj) := ⟨@aRj⟩
theorem aRT (p0 p1 r) (h : xF p0 p1 = some r) : Sc 376 [aL M.aG.en p0, aL M.aG.en p1] [rB r] := by
 have i1 := inv fun m s => ∃ v5 : Int, (s.t 0 = vL M.aG.en p0 ∧ s.t 1 = vL M.aG.en p1 ∧ s.t 5 = vI v5) ∧ kL p0 p1 m v5 = some r
 have e1 := @kL.eq_2
 unfold xF at h
 exact sgo 27 [.tmp 4] Tryz.func376
instance : bC 376 (type_of% @aRT) := ⟨@aRT⟩
theorem aTR (p0 p1 r) (h : sA p0 p1 = some r) : Sc 400 [aX (M.aA.en p0), aX (M.aA.en p1)] [rB r] := by
 unfold sA at h
 exact sgo 15 [.tmp 4] Tryz.func400
instance : bC 400 (type_of% @aTR) := ⟨@aTR⟩
theorem aRF (p0 p1 r) (h : oD p0 p1 = some r) : Sc 377 [aL M.aA.en p0, aL M.aA.en p1] [rB r] := by
 have i1 := inv fun m s => ∃ v5 : Int, (s.t 0 = vL M.aA.en p0 ∧ s.t 1 = vL M.aA.en p1 ∧ s.t 5 = vI v5) ∧ iL p0 p1 m v5 = some r
 have e1 := @iL.eq_2
 unfold oD at h
 exact sgo 27 [.tmp 4] Tryz.func377
instance : bC 377 (type_of% @aRF) := ⟨@aRF⟩
theorem aUu (p0 p1 r) (h : rL p0 p1 = some r) : Sc 330 [aX (M.Database.en p0), aX (M.Database.en p1)] [rB r] := by
 unfold rL at h
 exact sgo 27 [.tmp 4] Tryz.func330
instance : bC 330 (type_of% @aUu) := ⟨@aUu⟩
theorem aTS (p0 p1 r) (h : aAW p0 p1 = some r) : Sc 265 [aX (M.bF.en p0), aX (M.bF.en p1)] [rB r] := by
 unfold aAW at h
 exact sgo 22 [.tmp 4] Tryz.func265
instance : bC 265 (type_of% @aTS) := ⟨@aTS⟩
theorem aSK (p0 p1 r) (h : zB p0 p1 = some r) : Sc 272 [aX (M.aW.en p0), aX (M.aW.en p1)] [rB r] := by
 unfold zB at h
 exact sgo 31 [.tmp 4] Tryz.func272
instance : bC 272 (type_of% @aSK) := ⟨@aSK⟩
theorem aTZ (p0 p1 r) (h : qO p0 p1 = some r) : Sc 201 [aL M.aW.en p0, aL M.aW.en p1] [rB r] := by
 have i1 := inv fun m s => ∃ v5 : Int, (s.t 0 = vL M.aW.en p0 ∧ s.t 1 = vL M.aW.en p1 ∧ s.t 5 = vI v5) ∧ kN p0 p1 m v5 = some r
 have e1 := @kN.eq_2
 unfold qO at h
 exact sgo 27 [.tmp 4] Tryz.func201
instance : bC 201 (type_of% @aTZ) := ⟨@aTZ⟩
theorem aRt (p0 p1 r) (h : wD p0 p1 = some r) : Sc 378 [aX (M.aV.en p0), aX (M.aV.en p1)] [rB r] := by
 unfold wD at h
 exact sgo 21 [.tmp 4] Tryz.func378
instance : bC 378 (type_of% @aRt) := ⟨@aRt⟩
theorem aVL (p0 p1 r) (h : aAu p0 p1 = some r) : Sc 332 [aX (M.Sync.en p0), aX (M.Sync.en p1)] [rB r] := by
 unfold aAu at h
 exact sgo 21 [.tmp 4] Tryz.func332
instance : bC 332 (type_of% @aVL) := ⟨@aVL⟩
theorem aUn (p0 p1 r) (h : uG p0 p1 = some r) : Sc 266 [aX (M.aC.en p0), aX (M.aC.en p1)] [rB r] := by
 unfold uG at h
 exact sgo 22 [.tmp 4] Tryz.func266
instance : bC 266 (type_of% @aUn) := ⟨@aUn⟩
theorem aSl (p0 p1 r) (h : xR p0 p1 = some r) : Sc 193 [aX (M.aE.en p0), aX (M.aE.en p1)] [rB r] := by
 unfold xR at h
 exact sgo 49 [.tmp 4] Tryz.func193
instance : bC 193 (type_of% @aSl) := ⟨@aSl⟩
theorem aR4 (p0 p1 r) (h : uH p0 p1 = some r) : Sc 111 [aL M.aE.en p0, aL M.aE.en p1] [rB r] := by
 have i1 := inv fun m s => ∃ v5 : Int, (s.t 0 = vL M.aE.en p0 ∧ s.t 1 = vL M.aE.en p1 ∧ s.t 5 = vI v5) ∧ jU p0 p1 m v5 = some r
 have e1 := @jU.eq_2
 unfold uH at h
 exact sgo 27 [.tmp 4] Tryz.func111
instance : bC 111 (type_of% @aR4) := ⟨@aR4⟩
theorem c40 (p0 p1 r) (h : tY p0 p1 = some r) : Sc 40 [aX (M.aK.en p0), aX (M.aK.en p1)] [rB r] := by
 unfold tY at h
 exact sgo 11 [.tmp 4] Tryz.func40
instance : bC 40 (type_of% @c40) := ⟨@c40⟩
theorem aVO (p0 p1 r) (h : xK p0 p1 = some r) : Sc 267 [aX (M.aJ.en p0), aX (M.aJ.en p1)] [rB r] := by
 unfold xK at h
 exact sgo 15 [.tmp 4] Tryz.func267
instance : bC 267 (type_of% @aVO) := ⟨@aVO⟩
theorem aTG (p0 p1 r) (h : tP p0 p1 = some r) : Sc 194 [aL M.aJ.en p0, aL M.aJ.en p1] [rB r] := by
 have i1 := inv fun m s => ∃ v5 : Int, (s.t 0 = vL M.aJ.en p0 ∧ s.t 1 = vL M.aJ.en p1 ∧ s.t 5 = vI v5) ∧ jS p0 p1 m v5 = some r
 have e1 := @jS.eq_2
 unfold tP at h
 exact sgo 27 [.tmp 4] Tryz.func194
instance : bC 194 (type_of% @aTG) := ⟨@aTG⟩
theorem aSd (p0 p1 r) (h : yN p0 p1 = some r) : Sc 333 [aX (M.Instr.en p0), aX (M.Instr.en p1)] [rB r] := by
 unfold yN at h
 exact sgo 25 [.tmp 4] Tryz.func333
instance : bC 333 (type_of% @aSd) := ⟨@aSd⟩
theorem aSJ (p0 p1 r) (h : wE p0 p1 = some r) : Sc 268 [aL M.Instr.en p0, aL M.Instr.en p1] [rB r] := by
 have i1 := inv fun m s => ∃ v5 : Int, (s.t 0 = vL M.Instr.en p0 ∧ s.t 1 = vL M.Instr.en p1 ∧ s.t 5 = vI v5) ∧ kO p0 p1 m v5 = some r
 have e1 := @kO.eq_2
 unfold wE at h
 exact sgo 27 [.tmp 4] Tryz.func268
instance : bC 268 (type_of% @aSJ) := ⟨@aSJ⟩
theorem aRY (p0 p1 r) (h : aBF p0 p1 = some r) : Sc 269 [aL enI p0, aL enI p1] [rB r] := by
 have i1 := inv fun m s => ∃ v5 : Int, (s.t 0 = vL enI p0 ∧ s.t 1 = vL enI p1 ∧ s.t 5 = vI v5) ∧ nM p0 p1 m v5 = some r
 have e1 := @nM.eq_2
 unfold aBF at h
 exact sgo 26 [.tmp 4] Tryz.func269
instance : bC 269 (type_of% @aRY) := ⟨@aRY⟩
theorem aT2 (p0 p1 r) (h : tE p0 p1 = some r) : Sc 195 [aX (M.Machine.en p0), aX (M.Machine.en p1)] [rB r] := by
 unfold tE at h
 exact sgo 37 [.tmp 4] Tryz.func195
instance : bC 195 (type_of% @aT2) := ⟨@aT2⟩
theorem aRX (p0 p1 r) (h : aAh p0 p1 = some r) : Sc 112 [aX (M.bG.en p0), aX (M.bG.en p1)] [rB r] := by
 unfold aAh at h
 exact sgo 37 [.tmp 4] Tryz.func112
instance : bC 112 (type_of% @aRX) := ⟨@aRX⟩
theorem c41 (p0 p1 r) (h : zU p0 p1 = some r) : Sc 41 [aL M.bG.en p0, aL M.bG.en p1] [rB r] := by
 have i1 := inv fun m s => ∃ v5 : Int, (s.t 0 = vL M.bG.en p0 ∧ s.t 1 = vL M.bG.en p1 ∧ s.t 5 = vI v5) ∧ lV p0 p1 m v5 = some r
 have e1 := @lV.eq_2
 unfold zU at h
 exact sgo 27 [.tmp 4] Tryz.func41
instance : bC 41 (type_of% @c41) := ⟨@c41⟩
theorem aRU (p0 p1 r) (h : aAg p0 p1 = some r) : Sc 196 [aX (M.cF.en p0), aX (M.cF.en p1)] [rB r] := by
 unfold aAg at h
 exact sgo 25 [.tmp 4] Tryz.func196
instance : bC 196 (type_of% @aRU) := ⟨@aRU⟩
theorem aSt (p0 p1 r) (h : zV p0 p1 = some r) : Sc 113 [aL M.cF.en p0, aL M.cF.en p1] [rB r] := by
 have i1 := inv fun m s => ∃ v5 : Int, (s.t 0 = vL M.cF.en p0 ∧ s.t 1 = vL M.cF.en p1 ∧ s.t 5 = vI v5) ∧ lZ p0 p1 m v5 = some r
 have e1 := @lZ.eq_2
 unfold zV at h
 exact sgo 27 [.tmp 4] Tryz.func113
instance : bC 113 (type_of% @aSt) := ⟨@aSt⟩
theorem c42 (p0 p1 r) (h : oG p0 p1 = some r) : Sc 42 [aX (M.aR.en p0), aX (M.aR.en p1)] [rB r] := by
 unfold oG at h
 exact sgo 11 [.tmp 4] Tryz.func42
instance : bC 42 (type_of% @c42) := ⟨@c42⟩
theorem aUQ (p0 p1 r) (h : aA0 p0 p1 = some r) : Sc 197 [aX (M.fH.en p0), aX (M.fH.en p1)] [rB r] := by
 unfold aA0 at h
 exact sgo 20 [.tmp 4] Tryz.func197
instance : bC 197 (type_of% @aUQ) := ⟨@aUQ⟩
theorem aRr (p0 p1 r) (h : zE p0 p1 = some r) : Sc 114 [aL M.fH.en p0, aL M.fH.en p1] [rB r] := by
 have i1 := inv fun m s => ∃ v5 : Int, (s.t 0 = vL M.fH.en p0 ∧ s.t 1 = vL M.fH.en p1 ∧ s.t 5 = vI v5) ∧ mE p0 p1 m v5 = some r
 have e1 := @mE.eq_2
 unfold zE at h
 exact sgo 27 [.tmp 4] Tryz.func114
instance : bC 114 (type_of% @aRr) := ⟨@aRr⟩
theorem c43 (p0 p1 r) (h : tJ p0 p1 = some r) : Sc 43 [aX (M.Channel.en p0), aX (M.Channel.en p1)] [rB r] := by
 unfold tJ at h
 exact sgo 11 [.tmp 4] Tryz.func43
instance : bC 43 (type_of% @c43) := ⟨@c43⟩
theorem aUP (p0 p1 r) (h : tR p0 p1 = some r) : Sc 198 [aL enS p0, aL enS p1] [rB r] := by
 have i1 := inv fun m s => ∃ v5 : Int, (s.t 0 = vL enS p0 ∧ s.t 1 = vL enS p1 ∧ s.t 5 = vI v5) ∧ jJ p0 p1 m v5 = some r
 have e1 := @jJ.eq_2
 unfold tR at h
 exact sgo 26 [.tmp 4] Tryz.func198
instance : bC 198 (type_of% @aUP) := ⟨@aUP⟩
theorem aRs (p0 p1 r) (h : aAZ p0 p1 = some r) : Sc 115 [aX (M.Site.en p0), aX (M.Site.en p1)] [rB r] := by
 unfold aAZ at h
 exact sgo 26 [.tmp 4] Tryz.func115
instance : bC 115 (type_of% @aRs) := ⟨@aRs⟩
theorem c44 (p0 p1 r) (h : zT p0 p1 = some r) : Sc 44 [aL M.Site.en p0, aL M.Site.en p1] [rB r] := by
 have i1 := inv fun m s => ∃ v5 : Int, (s.t 0 = vL M.Site.en p0 ∧ s.t 1 = vL M.Site.en p1 ∧ s.t 5 = vI v5) ∧ lY p0 p1 m v5 = some r
 have e1 := @lY.eq_2
 unfold zT at h
 exact sgo 27 [.tmp 4] Tryz.func44
instance : bC 44 (type_of% @c44) := ⟨@c44⟩
theorem aSY (p0 p1 r) (h : uB p0 p1 = some r) : Sc 271 [aX (M.aH.en p0), aX (M.aH.en p1)] [rB r] := by
 unfold uB at h
 exact sgo 15 [.tmp 4] Tryz.func271
instance : bC 271 (type_of% @aSY) := ⟨@aSY⟩
theorem aRc (p0 p1 r) (h : rG p0 p1 = some r) : Sc 200 [aL M.aH.en p0, aL M.aH.en p1] [rB r] := by
 have i1 := inv fun m s => ∃ v5 : Int, (s.t 0 = vL M.aH.en p0 ∧ s.t 1 = vL M.aH.en p1 ∧ s.t 5 = vI v5) ∧ iZ p0 p1 m v5 = some r
 have e1 := @iZ.eq_2
 unfold rG at h
 exact sgo 27 [.tmp 4] Tryz.func200
instance : bC 200 (type_of% @aRc) := ⟨@aRc⟩
theorem aSy (p0 p1 r) (h : wH p0 p1 = some r) : Sc 116 [aX (M.Server.en p0), aX (M.Server.en p1)] [rB r] := by
 unfold wH at h
 exact sgo 23 [.tmp 4] Tryz.func116
instance : bC 116 (type_of% @aSy) := ⟨@aSy⟩
theorem c45 (p0 p1 r) (h : uC p0 p1 = some r) : Sc 45 [aL M.Server.en p0, aL M.Server.en p1] [rB r] := by
 have i1 := inv fun m s => ∃ v5 : Int, (s.t 0 = vL M.Server.en p0 ∧ s.t 1 = vL M.Server.en p1 ∧ s.t 5 = vI v5) ∧ jR p0 p1 m v5 = some r
 have e1 := @jR.eq_2
 unfold uC at h
 exact sgo 27 [.tmp 4] Tryz.func45
instance : bC 45 (type_of% @c45) := ⟨@c45⟩
theorem c11 (p0 p1 r) (h : lU p0 p1 = some r) : Sc 11 [aX (M.World.en p0), aX (M.World.en p1)] [rB r] := by
 unfold lU at h
 exact sgo 61 [.tmp 4] Tryz.func11
instance : bC 11 (type_of% @c11) := ⟨@c11⟩
end Go.Proofs.YtecmnmaaopkdfaaGreat.gen
