/-
  Helper text. No conditions.
-/
import Derived.Test.YtecmnmaaopkdfaaGreatReleaseSiteTi
namespace Go.Proofs.YtecmnmaaopkdfaaGreat.gen
open Go Go.Sh
set_option linter.unusedVariables false
set_option linter.unusedSimpArgs false
set_option maxRecDepth 20000
set_option maxHeartbeats 4000000
theorem aRg (p0 p1 r) (h : jF p0 p1 = some r) : Sc 263 [aX (M.Registration.en p0), aX (M.Registration.en p1)] [rB r] := by
 unfold jF at h
 exact sgo 25 [.tmp 4] Tryz.func263
instance : bD 263 (type_of% @aRg) := ⟨@aRg⟩
theorem aRT (p0 p1 r) (h : tK p0 p1 = some r) : Sc 331 [aL enB p0, aL enB p1] [rB r] := by
 have i1 := inv fun m s => ∃ v5 : Int, (s.t 0 = vL enB p0 ∧ s.t 1 = vL enB p1 ∧ s.t 5 = vI v5) ∧ lI p0 p1 m v5 = some r
 have e1 := @lI.eq_2
 unfold tK at h
 exact sgo 26 [.tmp 4] Tryz.func331
instance : bD 331 (type_of% @aRT) := ⟨@aRT⟩
theorem aSq (p0 p1 r) (h : pV p0 p1 = some r) : Sc 417 [aX (M.Response.en p0), aX (M.Response.en p1)] [rB r] := by
 unfold pV at h
 exact sgo 31 [.tmp 4] Tryz.func417
instance : bD 417 (type_of% @aSq) := ⟨@aSq⟩
theorem aSe (p0 p1 r) (h : uZ p0 p1 = some r) : Sc 412 [aX (M.Cached.en p0), aX (M.Cached.en p1)] [rB r] := by
 unfold uZ at h
 exact sgo 21 [.tmp 4] Tryz.func412
instance : bD 412 (type_of% @aSe) := ⟨@aSe⟩
theorem aST (p0 p1 r) (h : sB p0 p1 = some r) : Sc 399 [aL M.Cached.en p0, aL M.Cached.en p1] [rB r] := by
 have i1 := inv fun m s => ∃ v5 : Int, (s.t 0 = vL M.Cached.en p0 ∧ s.t 1 = vL M.Cached.en p1 ∧ s.t 5 = vI v5) ∧ iW p0 p1 m v5 = some r
 have e1 := @iW.eq_2
 unfold sB at h
 exact sgo 27 [.tmp 4] Tryz.func399
instance : bD 399 (type_of% @aST) := ⟨@aST⟩
theorem aS6 (p0 p1 r) (h : wR p0 p1 = some r) : Sc 375 [aX (M.Cache.en p0), aX (M.Cache.en p1)] [rB r] := by
 unfold wR at h
 exact sgo 16 [.tmp 4] Tryz.func375
instance : bD 375 (type_of% @aS6) := ⟨@aS6⟩
theorem aSr (p0 p1 r) (h : uJ p0 p1 = some r) : Sc 329 [aL M.Cache.en p0, aL M.Cache.en p1] [rB r] := by
 have i1 := inv fun m s => ∃ v5 : Int, (s.t 0 = vL M.Cache.en p0 ∧ s.t 1 = vL M.Cache.en p1 ∧ s.t 5 = vI v5) ∧ jZ p0 p1 m v5 = some r
 have e1 := @jZ.eq_2
 unfold uJ at h
 exact sgo 27 [.tmp 4] Tryz.func329
instance : bD 329 (type_of% @aSr) := ⟨@aSr⟩
theorem aRK (p0 p1 r) (h : pC p0 p1 = some r) : Sc 264 [aX (M.aT.en p0), aX (M.aT.en p1)] [rB r] := by
 unfold pC at h
 exact sgo 11 [.tmp 4] Tryz.func264
instance : bD 264 (type_of% @aRK) := ⟨@aRK⟩
theorem aSM (p0 p1 r) (h : yU p0 p1 = some r) : Sc 335 [aX (M.Key.en p0), aX (M.Key.en p1)] [rB r] := by
 unfold yU at h
 exact sgo 20 [.tmp 4] Tryz.func335
instance : bD 335 (type_of% @aSM) := ⟨@aSM⟩
theorem aPZ (p0 p1 r) (h : xF p0 p1 = some r) : Sc 413 [aX (M.Field.en p0), aX (M.Field.en p1)] [rB r] := by
 unfold xF at h
 exact sgo 15 [.tmp 4] Tryz.func413
instance : bD 413 (type_of% @aPZ) := ⟨@aPZ⟩
theorem aPI (p0 p1 r) (h : uR p0 p1 = some r) : Sc 401 [aL M.Field.en p0, aL M.Field.en p1] [rB r] := by
 have i1 := inv fun m s => ∃ v5 : Int, (s.t 0 = vL M.Field.en p0 ∧ s.t 1 = vL M.Field.en p1 ∧ s.t 5 = vI v5) ∧ jS p0 p1 m v5 = some r
 have e1 := @jS.eq_2
 unfold uR at h
 exact sgo 27 [.tmp 4] Tryz.func401
instance : bD 401 (type_of% @aPI) := ⟨@aPI⟩
theorem aR3 (p0 p1 r) (h : uH p0 p1 = some r) : Sc 379 [aX (M.aU.en p0), aX (M.aU.en p1)] [rB r] := by
 unfold uH at h
 exact sgo 11 [.tmp 4] Tryz.func379
instance : bD 379 (type_of% @aR3) := ⟨@aR3⟩
theorem aRP (p0 p1 r) (h : zT p0 p1 = some r) : Sc 334 [aX (M.Item.en p0), aX (M.Item.en p1)] [rB r] := by
 unfold zT at h
 exact sgo 17 [.tmp 4] Tryz.func334
instance : bD 334 (type_of% @aRP) := ⟨@aRP⟩
theorem aPh (p0 p1 r) (h : wP p0 p1 = some r) : Sc 270 [aL M.Item.en p0, aL M.Item.en p1] [rB r] := by
 have i1 := inv fun m s => ∃ v5 : Int, (s.t 0 = vL M.Item.en p0 ∧ s.t 1 = vL M.Item.en p1 ∧ s.t 5 = vI v5) ∧ kW p0 p1 m v5 = some r
 have e1 := @kW.eq_2
 unfold wP at h
 exact sgo 27 [.tmp 4] Tryz.func270
instance : bD 270 (type_of% @aPh) := ⟨@aPh⟩
theorem aRR (p0 p1 r) (h : oF p0 p1 = some r) : Sc 199 [aX (M.aH.en p0), aX (M.aH.en p1)] [rB r] := by
 unfold oF at h
 exact sgo 21 [.tmp 4] Tryz.func199
instance : bD 199 (type_of% @aRR) := ⟨@aRR⟩
theorem aQ8 (p0 p1 r) (h : vV p0 p1 = some r) : Sc 376 [aL M.aH.en p0, aL M.aH.en p1] [rB r] := by
 have i1 := inv fun m s => ∃ v5 : Int, (s.t 0 = vL M.aH.en p0 ∧ s.t 1 = vL M.aH.en p1 ∧ s.t 5 = vI v5) ∧ jX p0 p1 m v5 = some r
 have e1 := @jX.eq_2
 unfold vV at h
 exact sgo 27 [.tmp 4] Tryz.func376
instance : bD 376 (type_of% @aQ8) := ⟨@aQ8⟩
theorem aQc (p0 p1 r) (h : pT p0 p1 = some r) : Sc 400 [aX (M.aA.en p0), aX (M.aA.en p1)] [rB r] := by
 unfold pT at h
 exact sgo 15 [.tmp 4] Tryz.func400
instance : bD 400 (type_of% @aQc) := ⟨@aQc⟩
theorem aSP (p0 p1 r) (h : mV p0 p1 = some r) : Sc 377 [aL M.aA.en p0, aL M.aA.en p1] [rB r] := by
 have i1 := inv fun m s => ∃ v5 : Int, (s.t 0 = vL M.aA.en p0 ∧ s.t 1 = vL M.aA.en p1 ∧ s.t 5 = vI v5) ∧ hZ p0 p1 m v5 = some r
 have e1 := @hZ.eq_2
 unfold mV at h
 exact sgo 27 [.tmp 4] Tryz.func377
instance : bD 377 (type_of% @aSP) := ⟨@aSP⟩
theorem aPv (p0 p1 r) (h : pU p0 p1 = some r) : Sc 330 [aX (M.Database.en p0), aX (M.Database.en p1)] [rB r] := by
 unfold pU at h
 exact sgo 27 [.tmp 4] Tryz.func330
instance : bD 330 (type_of% @aPv) := ⟨@aPv⟩
theorem aP2 (p0 p1 r) (h : aAR p0 p1 = some r) : Sc 265 [aX (M.bC.en p0), aX (M.bC.en p1)] [rB r] := by
 unfold aAR at h
 exact sgo 22 [.tmp 4] Tryz.func265
instance : bD 265 (type_of% @aP2) := ⟨@aP2⟩
theorem aSE (p0 p1 r) (h : wQ p0 p1 = some r) : Sc 272 [aX (M.aW.en p0), aX (M.aW.en p1)] [rB r] := by
 unfold wQ at h
 exact sgo 31 [.tmp 4] Tryz.func272
instance : bD 272 (type_of% @aSE) := ⟨@aSE⟩
theorem aSI (p0 p1 r) (h : pW p0 p1 = some r) : Sc 201 [aL M.aW.en p0, aL M.aW.en p1] [rB r] := by
 have i1 := inv fun m s => ∃ v5 : Int, (s.t 0 = vL M.aW.en p0 ∧ s.t 1 = vL M.aW.en p1 ∧ s.t 5 = vI v5) ∧ jP p0 p1 m v5 = some r
 have e1 := @jP.eq_2
 unfold pW at h
 exact sgo 27 [.tmp 4] Tryz.func201
instance : bD 201 (type_of% @aSI) := ⟨@aSI⟩
theorem aRE (p0 p1 r) (h : uN p0 p1 = some r) : Sc 378 [aX (M.aV.en p0), aX (M.aV.en p1)] [rB r] := by
 unfold uN at h
 exact sgo 21 [.tmp 4] Tryz.func378
instance : bD 378 (type_of% @aRE) := ⟨@aRE⟩
theorem aQg (p0 p1 r) (h : zH p0 p1 = some r) : Sc 332 [aX (M.Sync.en p0), aX (M.Sync.en p1)] [rB r] := by
 unfold zH at h
 exact sgo 21 [.tmp 4] Tryz.func332
instance : bD 332 (type_of% @aQg) := ⟨@aQg⟩
theorem aQP (p0 p1 r) (h : rY p0 p1 = some r) : Sc 266 [aX (M.aC.en p0), aX (M.aC.en p1)] [rB r] := by
 unfold rY at h
 exact sgo 22 [.tmp 4] Tryz.func266
instance : bD 266 (type_of% @aQP) := ⟨@aQP⟩
theorem aRj (p0 p1 r) (h : vC p0 p1 = some r) : Sc 193 [aX (M.aE.en p0), aX (M.aE.en p1)] [rB r] := by
 unfold vC at h
 exact sgo 49 [.tmp 4] Tryz.func193
instance : bD 193 (type_of% @aRj) := ⟨@aRj⟩
theorem aQn (p0 p1 r) (h : sA p0 p1 = some r) : Sc 111 [aL M.aE.en p0, aL M.aE.en p1] [rB r] := by
 have i1 := inv fun m s => ∃ v5 : Int, (s.t 0 = vL M.aE.en p0 ∧ s.t 1 = vL M.aE.en p1 ∧ s.t 5 = vI v5) ∧ iS p0 p1 m v5 = some r
 have e1 := @iS.eq_2
 unfold sA at h
 exact sgo 27 [.tmp 4] Tryz.func111
instance : bD 111 (type_of% @aQn) := ⟨@aQn⟩
theorem c40 (p0 p1 r) (h : tC p0 p1 = some r) : Sc 40 [aX (M.aK.en p0), aX (M.aK.en p1)] [rB r] := by
 unfold tC at h
 exact sgo 11 [.tmp 4] Tryz.func40
instance : bD 40 (type_of% @c40) := ⟨@c40⟩
theorem aRU (p0 p1 r) (h : uB p0 p1 = some r) : Sc 267 [aX (M.aM.en p0), aX (M.aM.en p1)] [rB r] := by
 unfold uB at h
 exact sgo 15 [.tmp 4] Tryz.func267
instance : bD 267 (type_of% @aRU) := ⟨@aRU⟩
theorem aR8 (p0 p1 r) (h : rM p0 p1 = some r) : Sc 194 [aL M.aM.en p0, aL M.aM.en p1] [rB r] := by
 have i1 := inv fun m s => ∃ v5 : Int, (s.t 0 = vL M.aM.en p0 ∧ s.t 1 = vL M.aM.en p1 ∧ s.t 5 = vI v5) ∧ iP p0 p1 m v5 = some r
 have e1 := @iP.eq_2
 unfold rM at h
 exact sgo 27 [.tmp 4] Tryz.func194
instance : bD 194 (type_of% @aR8) := ⟨@aR8⟩
theorem aPW (p0 p1 r) (h : yJ p0 p1 = some r) : Sc 333 [aX (M.Instr.en p0), aX (M.Instr.en p1)] [rB r] := by
 unfold yJ at h
 exact sgo 25 [.tmp 4] Tryz.func333
instance : bD 333 (type_of% @aPW) := ⟨@aPW⟩
theorem aPJ (p0 p1 r) (h : uO p0 p1 = some r) : Sc 268 [aL M.Instr.en p0, aL M.Instr.en p1] [rB r] := by
 have i1 := inv fun m s => ∃ v5 : Int, (s.t 0 = vL M.Instr.en p0 ∧ s.t 1 = vL M.Instr.en p1 ∧ s.t 5 = vI v5) ∧ jW p0 p1 m v5 = some r
 have e1 := @jW.eq_2
 unfold uO at h
 exact sgo 27 [.tmp 4] Tryz.func268
instance : bD 268 (type_of% @aPJ) := ⟨@aPJ⟩
theorem aQE (p0 p1 r) (h : aAQ p0 p1 = some r) : Sc 269 [aL enI p0, aL enI p1] [rB r] := by
 have i1 := inv fun m s => ∃ v5 : Int, (s.t 0 = vL enI p0 ∧ s.t 1 = vL enI p1 ∧ s.t 5 = vI v5) ∧ mI p0 p1 m v5 = some r
 have e1 := @mI.eq_2
 unfold aAQ at h
 exact sgo 26 [.tmp 4] Tryz.func269
instance : bD 269 (type_of% @aQE) := ⟨@aQE⟩
theorem aP8 (p0 p1 r) (h : sC p0 p1 = some r) : Sc 195 [aX (M.Machine.en p0), aX (M.Machine.en p1)] [rB r] := by
 unfold sC at h
 exact sgo 37 [.tmp 4] Tryz.func195
instance : bD 195 (type_of% @aP8) := ⟨@aP8⟩
theorem aQF (p0 p1 r) (h : aAX p0 p1 = some r) : Sc 112 [aX (M.bJ.en p0), aX (M.bJ.en p1)] [rB r] := by
 unfold aAX at h
 exact sgo 37 [.tmp 4] Tryz.func112
instance : bD 112 (type_of% @aQF) := ⟨@aQF⟩
theorem c41 (p0 p1 r) (h : xA p0 p1 = some r) : Sc 41 [aL M.bJ.en p0, aL M.bJ.en p1] [rB r] := by
 have i1 := inv fun m s => ∃ v5 : Int, (s.t 0 = vL M.bJ.en p0 ∧ s.t 1 = vL M.bJ.en p1 ∧ s.t 5 = vI v5) ∧ lL p0 p1 m v5 = some r
 have e1 := @lL.eq_2
 unfold xA at h
 exact sgo 27 [.tmp 4] Tryz.func41
instance : bD 41 (type_of% @c41) := ⟨@c41⟩
theorem aS3 (p0 p1 r) (h : zG p0 p1 = some r) : Sc 196 [aX (M.bY.en p0), aX (M.bY.en p1)] [rB r] := by
 unfold zG at h
 exact sgo 25 [.tmp 4] Tryz.func196
instance : bD 196 (type_of% @aS3) := ⟨@aS3⟩
theorem aPT (p0 p1 r) (h : xW p0 p1 = some r) : Sc 113 [aL M.bY.en p0, aL M.bY.en p1] [rB r] := by
 have i1 := inv fun m s => ∃ v5 : Int, (s.t 0 = vL M.bY.en p0 ∧ s.t 1 = vL M.bY.en p1 ∧ s.t 5 = vI v5) ∧ kU p0 p1 m v5 = some r
 have e1 := @kU.eq_2
 unfold xW at h
 exact sgo 27 [.tmp 4] Tryz.func113
instance : bD 113 (type_of% @aPT) := ⟨@aPT⟩
theorem c42 (p0 p1 r) (h : nS p0 p1 = some r) : Sc 42 [aX (M.aQ.en p0), aX (M.aQ.en p1)] [rB r] := by
 unfold nS at h
 exact sgo 11 [.tmp 4] Tryz.func42
instance : bD 42 (type_of% @c42) := ⟨@c42⟩
theorem aTC (p0 p1 r) (h : aAE p0 p1 = some r) : Sc 197 [aX (M.fA.en p0), aX (M.fA.en p1)] [rB r] := by
 unfold aAE at h
 exact sgo 20 [.tmp 4] Tryz.func197
instance : bD 197 (type_of% @aTC) := ⟨@aTC⟩
theorem aSR (p0 p1 r) (h : wS p0 p1 = some r) : Sc 114 [aL M.fA.en p0, aL M.fA.en p1] [rB r] := by
 have i1 := inv fun m s => ∃ v5 : Int, (s.t 0 = vL M.fA.en p0 ∧ s.t 1 = vL M.fA.en p1 ∧ s.t 5 = vI v5) ∧ kY p0 p1 m v5 = some r
 have e1 := @kY.eq_2
 unfold wS at h
 exact sgo 27 [.tmp 4] Tryz.func114
instance : bD 114 (type_of% @aSR) := ⟨@aSR⟩
theorem c43 (p0 p1 r) (h : rG p0 p1 = some r) : Sc 43 [aX (M.Channel.en p0), aX (M.Channel.en p1)] [rB r] := by
 unfold rG at h
 exact sgo 11 [.tmp 4] Tryz.func43
instance : bD 43 (type_of% @c43) := ⟨@c43⟩
theorem aSp (p0 p1 r) (h : sE p0 p1 = some r) : Sc 198 [aL enS p0, aL enS p1] [rB r] := by
 have i1 := inv fun m s => ∃ v5 : Int, (s.t 0 = vL enS p0 ∧ s.t 1 = vL enS p1 ∧ s.t 5 = vI v5) ∧ iX p0 p1 m v5 = some r
 have e1 := @iX.eq_2
 unfold sE at h
 exact sgo 26 [.tmp 4] Tryz.func198
instance : bD 198 (type_of% @aSp) := ⟨@aSp⟩
theorem aRe (p0 p1 r) (h : yZ p0 p1 = some r) : Sc 115 [aX (M.Site.en p0), aX (M.Site.en p1)] [rB r] := by
 unfold yZ at h
 exact sgo 26 [.tmp 4] Tryz.func115
instance : bD 115 (type_of% @aRe) := ⟨@aRe⟩
theorem c44 (p0 p1 r) (h : xT p0 p1 = some r) : Sc 44 [aL M.Site.en p0, aL M.Site.en p1] [rB r] := by
 have i1 := inv fun m s => ∃ v5 : Int, (s.t 0 = vL M.Site.en p0 ∧ s.t 1 = vL M.Site.en p1 ∧ s.t 5 = vI v5) ∧ lK p0 p1 m v5 = some r
 have e1 := @lK.eq_2
 unfold xT at h
 exact sgo 27 [.tmp 4] Tryz.func44
instance : bD 44 (type_of% @c44) := ⟨@c44⟩
theorem aPd (p0 p1 r) (h : tH p0 p1 = some r) : Sc 271 [aX (M.aG.en p0), aX (M.aG.en p1)] [rB r] := by
 unfold tH at h
 exact sgo 15 [.tmp 4] Tryz.func271
instance : bD 271 (type_of% @aPd) := ⟨@aPd⟩
theorem aSz (p0 p1 r) (h : pL p0 p1 = some r) : Sc 200 [aL M.aG.en p0, aL M.aG.en p1] [rB r] := by
 have i1 := inv fun m s => ∃ v5 : Int, (s.t 0 = vL M.aG.en p0 ∧ s.t 1 = vL M.aG.en p1 ∧ s.t 5 = vI v5) ∧ iF p0 p1 m v5 = some r
 have e1 := @iF.eq_2
 unfold pL at h
 exact sgo 27 [.tmp 4] Tryz.func200
instance : bD 200 (type_of% @aSz) := ⟨@aSz⟩
theorem aSc (p0 p1 r) (h : vY p0 p1 = some r) : Sc 116 [aX (M.Server.en p0), aX (M.Server.en p1)] [rB r] := by
 unfold vY at h
 exact sgo 23 [.tmp 4] Tryz.func116
instance : bD 116 (type_of% @aSc) := ⟨@aSc⟩
theorem c45 (p0 p1 r) (h : rQ p0 p1 = some r) : Sc 45 [aL M.Server.en p0, aL M.Server.en p1] [rB r] := by
 have i1 := inv fun m s => ∃ v5 : Int, (s.t 0 = vL M.Server.en p0 ∧ s.t 1 = vL M.Server.en p1 ∧ s.t 5 = vI v5) ∧ iU p0 p1 m v5 = some r
 have e1 := @iU.eq_2
 unfold rQ at h
 exact sgo 27 [.tmp 4] Tryz.func45
instance : bD 45 (type_of% @c45) := ⟨@c45⟩
theorem c11 (p0 p1 r) (h : kQ p0 p1 = some r) : Sc 11 [aX (M.World.en p0), aX (M.World.en p1)] [rB r] := by
 unfold kQ at h
 exact sgo 61 [.tmp 4] Tryz.func11
instance : bD 11 (type_of% @c11) := ⟨@c11⟩
end Go.Proofs.YtecmnmaaopkdfaaGreat.gen
