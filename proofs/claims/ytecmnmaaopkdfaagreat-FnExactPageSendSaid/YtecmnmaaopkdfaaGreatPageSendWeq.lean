/-
  Helper text. No conditions.
-/
import Derived.Test.YtecmnmaaopkdfaaGreatPageSendTi
namespace Go.Proofs.YtecmnmaaopkdfaaGreat.gen
open Go Go.Sh
set_option linter.unusedVariables false
set_option linter.unusedSimpArgs false
set_option maxRecDepth 20000
set_option maxHeartbeats 4000000
theorem aTX (p0 p1 r) (h : jM p0 p1 = some r) : Sc 263 [aX (M.Registration.en p0), aX (M.Registration.en p1)] [rB r] := by
 unfold jM at h
 exact sgo 25 [.tmp 4] Tryz.func263
instance : bD 263 (type_of% @aTX) := ⟨@aTX⟩
theorem aQb (p0 p1 r) (h : tT p0 p1 = some r) : Sc 331 [aL enB p0, aL enB p1] [rB r] := by
 have i1 := inv fun m s => ∃ v5 : Int, (s.t 0 = vL enB p0 ∧ s.t 1 = vL enB p1 ∧ s.t 5 = vI v5) ∧ kY p0 p1 m v5 = some r
 have e1 := @kY.eq_2
 unfold tT at h
 exact sgo 26 [.tmp 4] Tryz.func331
instance : bD 331 (type_of% @aQb) := ⟨@aQb⟩
theorem aS0 (p0 p1 r) (h : qB p0 p1 = some r) : Sc 417 [aX (M.Response.en p0), aX (M.Response.en p1)] [rB r] := by
 unfold qB at h
 exact sgo 31 [.tmp 4] Tryz.func417
instance : bD 417 (type_of% @aS0) := ⟨@aS0⟩
theorem aP5 (p0 p1 r) (h : vJ p0 p1 = some r) : Sc 412 [aX (M.Cached.en p0), aX (M.Cached.en p1)] [rB r] := by
 unfold vJ at h
 exact sgo 21 [.tmp 4] Tryz.func412
instance : bD 412 (type_of% @aP5) := ⟨@aP5⟩
theorem aQI (p0 p1 r) (h : sI p0 p1 = some r) : Sc 399 [aL M.Cached.en p0, aL M.Cached.en p1] [rB r] := by
 have i1 := inv fun m s => ∃ v5 : Int, (s.t 0 = vL M.Cached.en p0 ∧ s.t 1 = vL M.Cached.en p1 ∧ s.t 5 = vI v5) ∧ jA p0 p1 m v5 = some r
 have e1 := @jA.eq_2
 unfold sI at h
 exact sgo 27 [.tmp 4] Tryz.func399
instance : bD 399 (type_of% @aQI) := ⟨@aQI⟩
theorem aPi (p0 p1 r) (h : yJ p0 p1 = some r) : Sc 375 [aX (M.Cache.en p0), aX (M.Cache.en p1)] [rB r] := by
 unfold yJ at h
 exact sgo 16 [.tmp 4] Tryz.func375
instance : bD 375 (type_of% @aPi) := ⟨@aPi⟩
theorem aQe (p0 p1 r) (h : uP p0 p1 = some r) : Sc 329 [aL M.Cache.en p0, aL M.Cache.en p1] [rB r] := by
 have i1 := inv fun m s => ∃ v5 : Int, (s.t 0 = vL M.Cache.en p0 ∧ s.t 1 = vL M.Cache.en p1 ∧ s.t 5 = vI v5) ∧ kF p0 p1 m v5 = some r
 have e1 := @kF.eq_2
 unfold uP at h
 exact sgo 27 [.tmp 4] Tryz.func329
instance : bD 329 (type_of% @aQe) := ⟨@aQe⟩
theorem aSo (p0 p1 r) (h : qJ p0 p1 = some r) : Sc 264 [aX (M.aT.en p0), aX (M.aT.en p1)] [rB r] := by
 unfold qJ at h
 exact sgo 11 [.tmp 4] Tryz.func264
instance : bD 264 (type_of% @aSo) := ⟨@aSo⟩
theorem aRN (p0 p1 r) (h : zI p0 p1 = some r) : Sc 335 [aX (M.Key.en p0), aX (M.Key.en p1)] [rB r] := by
 unfold zI at h
 exact sgo 20 [.tmp 4] Tryz.func335
instance : bD 335 (type_of% @aRN) := ⟨@aRN⟩
theorem aRn (p0 p1 r) (h : xR p0 p1 = some r) : Sc 413 [aX (M.Field.en p0), aX (M.Field.en p1)] [rB r] := by
 unfold xR at h
 exact sgo 15 [.tmp 4] Tryz.func413
instance : bD 413 (type_of% @aRn) := ⟨@aRn⟩
theorem aQc (p0 p1 r) (h : vW p0 p1 = some r) : Sc 401 [aL M.Field.en p0, aL M.Field.en p1] [rB r] := by
 have i1 := inv fun m s => ∃ v5 : Int, (s.t 0 = vL M.Field.en p0 ∧ s.t 1 = vL M.Field.en p1 ∧ s.t 5 = vI v5) ∧ jY p0 p1 m v5 = some r
 have e1 := @jY.eq_2
 unfold vW at h
 exact sgo 27 [.tmp 4] Tryz.func401
instance : bD 401 (type_of% @aQc) := ⟨@aQc⟩
theorem aRO (p0 p1 r) (h : uK p0 p1 = some r) : Sc 379 [aX (M.aU.en p0), aX (M.aU.en p1)] [rB r] := by
 unfold uK at h
 exact sgo 11 [.tmp 4] Tryz.func379
instance : bD 379 (type_of% @aRO) := ⟨@aRO⟩
theorem aQU (p0 p1 r) (h : aAj p0 p1 = some r) : Sc 334 [aX (M.Item.en p0), aX (M.Item.en p1)] [rB r] := by
 unfold aAj at h
 exact sgo 17 [.tmp 4] Tryz.func334
instance : bD 334 (type_of% @aQU) := ⟨@aQU⟩
theorem aQ3 (p0 p1 r) (h : xD p0 p1 = some r) : Sc 270 [aL M.Item.en p0, aL M.Item.en p1] [rB r] := by
 have i1 := inv fun m s => ∃ v5 : Int, (s.t 0 = vL M.Item.en p0 ∧ s.t 1 = vL M.Item.en p1 ∧ s.t 5 = vI v5) ∧ lI p0 p1 m v5 = some r
 have e1 := @lI.eq_2
 unfold xD at h
 exact sgo 27 [.tmp 4] Tryz.func270
instance : bD 270 (type_of% @aQ3) := ⟨@aQ3⟩
theorem aRl (p0 p1 r) (h : oG p0 p1 = some r) : Sc 199 [aX (M.aG.en p0), aX (M.aG.en p1)] [rB r] := by
 unfold oG at h
 exact sgo 21 [.tmp 4] Tryz.func199
instance : bD 199 (type_of% @aRl) := ⟨@aRl⟩
theorem aTU (p0 p1 r) (h : vA p0 p1 = some r) : Sc 376 [aL M.aG.en p0, aL M.aG.en p1] [rB r] := by
 have i1 := inv fun m s => ∃ v5 : Int, (s.t 0 = vL M.aG.en p0 ∧ s.t 1 = vL M.aG.en p1 ∧ s.t 5 = vI v5) ∧ kC p0 p1 m v5 = some r
 have e1 := @kC.eq_2
 unfold vA at h
 exact sgo 27 [.tmp 4] Tryz.func376
instance : bD 376 (type_of% @aTU) := ⟨@aTU⟩
theorem aRJ (p0 p1 r) (h : qC p0 p1 = some r) : Sc 400 [aX (M.aA.en p0), aX (M.aA.en p1)] [rB r] := by
 unfold qC at h
 exact sgo 15 [.tmp 4] Tryz.func400
instance : bD 400 (type_of% @aRJ) := ⟨@aRJ⟩
theorem aR6 (p0 p1 r) (h : nY p0 p1 = some r) : Sc 377 [aL M.aA.en p0, aL M.aA.en p1] [rB r] := by
 have i1 := inv fun m s => ∃ v5 : Int, (s.t 0 = vL M.aA.en p0 ∧ s.t 1 = vL M.aA.en p1 ∧ s.t 5 = vI v5) ∧ iA p0 p1 m v5 = some r
 have e1 := @iA.eq_2
 unfold nY at h
 exact sgo 27 [.tmp 4] Tryz.func377
instance : bD 377 (type_of% @aR6) := ⟨@aR6⟩
theorem aSX (p0 p1 r) (h : qI p0 p1 = some r) : Sc 330 [aX (M.Database.en p0), aX (M.Database.en p1)] [rB r] := by
 unfold qI at h
 exact sgo 27 [.tmp 4] Tryz.func330
instance : bD 330 (type_of% @aSX) := ⟨@aSX⟩
theorem aTK (p0 p1 r) (h : zO p0 p1 = some r) : Sc 265 [aX (M.bG.en p0), aX (M.bG.en p1)] [rB r] := by
 unfold zO at h
 exact sgo 22 [.tmp 4] Tryz.func265
instance : bD 265 (type_of% @aTK) := ⟨@aTK⟩
theorem aSg (p0 p1 r) (h : xX p0 p1 = some r) : Sc 272 [aX (M.aW.en p0), aX (M.aW.en p1)] [rB r] := by
 unfold xX at h
 exact sgo 31 [.tmp 4] Tryz.func272
instance : bD 272 (type_of% @aSg) := ⟨@aSg⟩
theorem aRa (p0 p1 r) (h : qH p0 p1 = some r) : Sc 201 [aL M.aW.en p0, aL M.aW.en p1] [rB r] := by
 have i1 := inv fun m s => ∃ v5 : Int, (s.t 0 = vL M.aW.en p0 ∧ s.t 1 = vL M.aW.en p1 ∧ s.t 5 = vI v5) ∧ kH p0 p1 m v5 = some r
 have e1 := @kH.eq_2
 unfold qH at h
 exact sgo 27 [.tmp 4] Tryz.func201
instance : bD 201 (type_of% @aRa) := ⟨@aRa⟩
theorem aSG (p0 p1 r) (h : uW p0 p1 = some r) : Sc 378 [aX (M.aV.en p0), aX (M.aV.en p1)] [rB r] := by
 unfold uW at h
 exact sgo 21 [.tmp 4] Tryz.func378
instance : bD 378 (type_of% @aSG) := ⟨@aSG⟩
theorem aSl (p0 p1 r) (h : aAV p0 p1 = some r) : Sc 332 [aX (M.Sync.en p0), aX (M.Sync.en p1)] [rB r] := by
 unfold aAV at h
 exact sgo 21 [.tmp 4] Tryz.func332
instance : bD 332 (type_of% @aSl) := ⟨@aSl⟩
theorem aQ4 (p0 p1 r) (h : sV p0 p1 = some r) : Sc 266 [aX (M.aC.en p0), aX (M.aC.en p1)] [rB r] := by
 unfold sV at h
 exact sgo 22 [.tmp 4] Tryz.func266
instance : bD 266 (type_of% @aQ4) := ⟨@aQ4⟩
theorem aQD (p0 p1 r) (h : vX p0 p1 = some r) : Sc 193 [aX (M.aE.en p0), aX (M.aE.en p1)] [rB r] := by
 unfold vX at h
 exact sgo 49 [.tmp 4] Tryz.func193
instance : bD 193 (type_of% @aQD) := ⟨@aQD⟩
theorem aRD (p0 p1 r) (h : rP p0 p1 = some r) : Sc 111 [aL M.aE.en p0, aL M.aE.en p1] [rB r] := by
 have i1 := inv fun m s => ∃ v5 : Int, (s.t 0 = vL M.aE.en p0 ∧ s.t 1 = vL M.aE.en p1 ∧ s.t 5 = vI v5) ∧ iX p0 p1 m v5 = some r
 have e1 := @iX.eq_2
 unfold rP at h
 exact sgo 27 [.tmp 4] Tryz.func111
instance : bD 111 (type_of% @aRD) := ⟨@aRD⟩
theorem c40 (p0 p1 r) (h : tP p0 p1 = some r) : Sc 40 [aX (M.aK.en p0), aX (M.aK.en p1)] [rB r] := by
 unfold tP at h
 exact sgo 11 [.tmp 4] Tryz.func40
instance : bD 40 (type_of% @c40) := ⟨@c40⟩
theorem aRw (p0 p1 r) (h : uJ p0 p1 = some r) : Sc 267 [aX (M.aM.en p0), aX (M.aM.en p1)] [rB r] := by
 unfold uJ at h
 exact sgo 15 [.tmp 4] Tryz.func267
instance : bD 267 (type_of% @aRw) := ⟨@aRw⟩
theorem aRP (p0 p1 r) (h : tE p0 p1 = some r) : Sc 194 [aL M.aM.en p0, aL M.aM.en p1] [rB r] := by
 have i1 := inv fun m s => ∃ v5 : Int, (s.t 0 = vL M.aM.en p0 ∧ s.t 1 = vL M.aM.en p1 ∧ s.t 5 = vI v5) ∧ jG p0 p1 m v5 = some r
 have e1 := @jG.eq_2
 unfold tE at h
 exact sgo 27 [.tmp 4] Tryz.func194
instance : bD 194 (type_of% @aRP) := ⟨@aRP⟩
theorem aTM (p0 p1 r) (h : zA p0 p1 = some r) : Sc 333 [aX (M.Instr.en p0), aX (M.Instr.en p1)] [rB r] := by
 unfold zA at h
 exact sgo 25 [.tmp 4] Tryz.func333
instance : bD 333 (type_of% @aTM) := ⟨@aTM⟩
theorem aPn (p0 p1 r) (h : vV p0 p1 = some r) : Sc 268 [aL M.Instr.en p0, aL M.Instr.en p1] [rB r] := by
 have i1 := inv fun m s => ∃ v5 : Int, (s.t 0 = vL M.Instr.en p0 ∧ s.t 1 = vL M.Instr.en p1 ∧ s.t 5 = vI v5) ∧ jS p0 p1 m v5 = some r
 have e1 := @jS.eq_2
 unfold vV at h
 exact sgo 27 [.tmp 4] Tryz.func268
instance : bD 268 (type_of% @aPn) := ⟨@aPn⟩
theorem aSi (p0 p1 r) (h : aAU p0 p1 = some r) : Sc 269 [aL enI p0, aL enI p1] [rB r] := by
 have i1 := inv fun m s => ∃ v5 : Int, (s.t 0 = vL enI p0 ∧ s.t 1 = vL enI p1 ∧ s.t 5 = vI v5) ∧ mN p0 p1 m v5 = some r
 have e1 := @mN.eq_2
 unfold aAU at h
 exact sgo 26 [.tmp 4] Tryz.func269
instance : bD 269 (type_of% @aSi) := ⟨@aSi⟩
theorem aRY (p0 p1 r) (h : rT p0 p1 = some r) : Sc 195 [aX (M.Machine.en p0), aX (M.Machine.en p1)] [rB r] := by
 unfold rT at h
 exact sgo 37 [.tmp 4] Tryz.func195
instance : bD 195 (type_of% @aRY) := ⟨@aRY⟩
theorem aPh (p0 p1 r) (h : aAe p0 p1 = some r) : Sc 112 [aX (M.bF.en p0), aX (M.bF.en p1)] [rB r] := by
 unfold aAe at h
 exact sgo 37 [.tmp 4] Tryz.func112
instance : bD 112 (type_of% @aPh) := ⟨@aPh⟩
theorem c41 (p0 p1 r) (h : xS p0 p1 = some r) : Sc 41 [aL M.bF.en p0, aL M.bF.en p1] [rB r] := by
 have i1 := inv fun m s => ∃ v5 : Int, (s.t 0 = vL M.bF.en p0 ∧ s.t 1 = vL M.bF.en p1 ∧ s.t 5 = vI v5) ∧ lK p0 p1 m v5 = some r
 have e1 := @lK.eq_2
 unfold xS at h
 exact sgo 27 [.tmp 4] Tryz.func41
instance : bD 41 (type_of% @c41) := ⟨@c41⟩
theorem aP4 (p0 p1 r) (h : aAa p0 p1 = some r) : Sc 196 [aX (M.bZ.en p0), aX (M.bZ.en p1)] [rB r] := by
 unfold aAa at h
 exact sgo 25 [.tmp 4] Tryz.func196
instance : bD 196 (type_of% @aP4) := ⟨@aP4⟩
theorem aTG (p0 p1 r) (h : yL p0 p1 = some r) : Sc 113 [aL M.bZ.en p0, aL M.bZ.en p1] [rB r] := by
 have i1 := inv fun m s => ∃ v5 : Int, (s.t 0 = vL M.bZ.en p0 ∧ s.t 1 = vL M.bZ.en p1 ∧ s.t 5 = vI v5) ∧ lF p0 p1 m v5 = some r
 have e1 := @lF.eq_2
 unfold yL at h
 exact sgo 27 [.tmp 4] Tryz.func113
instance : bD 113 (type_of% @aTG) := ⟨@aTG⟩
theorem c42 (p0 p1 r) (h : nA p0 p1 = some r) : Sc 42 [aX (M.aQ.en p0), aX (M.aQ.en p1)] [rB r] := by
 unfold nA at h
 exact sgo 11 [.tmp 4] Tryz.func42
instance : bD 42 (type_of% @c42) := ⟨@c42⟩
theorem aQV (p0 p1 r) (h : aAi p0 p1 = some r) : Sc 197 [aX (M.cN.en p0), aX (M.cN.en p1)] [rB r] := by
 unfold aAi at h
 exact sgo 20 [.tmp 4] Tryz.func197
instance : bD 197 (type_of% @aQV) := ⟨@aQV⟩
theorem aSB (p0 p1 r) (h : xQ p0 p1 = some r) : Sc 114 [aL M.cN.en p0, aL M.cN.en p1] [rB r] := by
 have i1 := inv fun m s => ∃ v5 : Int, (s.t 0 = vL M.cN.en p0 ∧ s.t 1 = vL M.cN.en p1 ∧ s.t 5 = vI v5) ∧ lC p0 p1 m v5 = some r
 have e1 := @lC.eq_2
 unfold xQ at h
 exact sgo 27 [.tmp 4] Tryz.func114
instance : bD 114 (type_of% @aSB) := ⟨@aSB⟩
theorem c43 (p0 p1 r) (h : sZ p0 p1 = some r) : Sc 43 [aX (M.Channel.en p0), aX (M.Channel.en p1)] [rB r] := by
 unfold sZ at h
 exact sgo 11 [.tmp 4] Tryz.func43
instance : bD 43 (type_of% @c43) := ⟨@c43⟩
theorem aRQ (p0 p1 r) (h : sC p0 p1 = some r) : Sc 198 [aL enS p0, aL enS p1] [rB r] := by
 have i1 := inv fun m s => ∃ v5 : Int, (s.t 0 = vL enS p0 ∧ s.t 1 = vL enS p1 ∧ s.t 5 = vI v5) ∧ iZ p0 p1 m v5 = some r
 have e1 := @iZ.eq_2
 unfold sC at h
 exact sgo 26 [.tmp 4] Tryz.func198
instance : bD 198 (type_of% @aRQ) := ⟨@aRQ⟩
theorem aQt (p0 p1 r) (h : aAf p0 p1 = some r) : Sc 115 [aX (M.Site.en p0), aX (M.Site.en p1)] [rB r] := by
 unfold aAf at h
 exact sgo 26 [.tmp 4] Tryz.func115
instance : bD 115 (type_of% @aQt) := ⟨@aQt⟩
theorem c44 (p0 p1 r) (h : xC p0 p1 = some r) : Sc 44 [aL M.Site.en p0, aL M.Site.en p1] [rB r] := by
 have i1 := inv fun m s => ∃ v5 : Int, (s.t 0 = vL M.Site.en p0 ∧ s.t 1 = vL M.Site.en p1 ∧ s.t 5 = vI v5) ∧ lO p0 p1 m v5 = some r
 have e1 := @lO.eq_2
 unfold xC at h
 exact sgo 27 [.tmp 4] Tryz.func44
instance : bD 44 (type_of% @c44) := ⟨@c44⟩
theorem aQy (p0 p1 r) (h : rU p0 p1 = some r) : Sc 271 [aX (M.aH.en p0), aX (M.aH.en p1)] [rB r] := by
 unfold rU at h
 exact sgo 15 [.tmp 4] Tryz.func271
instance : bD 271 (type_of% @aQy) := ⟨@aQy⟩
theorem aP9 (p0 p1 r) (h : pN p0 p1 = some r) : Sc 200 [aL M.aH.en p0, aL M.aH.en p1] [rB r] := by
 have i1 := inv fun m s => ∃ v5 : Int, (s.t 0 = vL M.aH.en p0 ∧ s.t 1 = vL M.aH.en p1 ∧ s.t 5 = vI v5) ∧ iN p0 p1 m v5 = some r
 have e1 := @iN.eq_2
 unfold pN at h
 exact sgo 27 [.tmp 4] Tryz.func200
instance : bD 200 (type_of% @aP9) := ⟨@aP9⟩
theorem aRv (p0 p1 r) (h : uM p0 p1 = some r) : Sc 116 [aX (M.Server.en p0), aX (M.Server.en p1)] [rB r] := by
 unfold uM at h
 exact sgo 23 [.tmp 4] Tryz.func116
instance : bD 116 (type_of% @aRv) := ⟨@aRv⟩
theorem c45 (p0 p1 r) (h : rJ p0 p1 = some r) : Sc 45 [aL M.Server.en p0, aL M.Server.en p1] [rB r] := by
 have i1 := inv fun m s => ∃ v5 : Int, (s.t 0 = vL M.Server.en p0 ∧ s.t 1 = vL M.Server.en p1 ∧ s.t 5 = vI v5) ∧ jE p0 p1 m v5 = some r
 have e1 := @jE.eq_2
 unfold rJ at h
 exact sgo 27 [.tmp 4] Tryz.func45
instance : bD 45 (type_of% @c45) := ⟨@c45⟩
theorem c11 (p0 p1 r) (h : kX p0 p1 = some r) : Sc 11 [aX (M.World.en p0), aX (M.World.en p1)] [rB r] := by
 unfold kX at h
 exact sgo 61 [.tmp 4] Tryz.func11
instance : bD 11 (type_of% @c11) := ⟨@c11⟩
end Go.Proofs.YtecmnmaaopkdfaaGreat.gen
