/-
  Helper text. No conditions.
-/
import Derived.Test.YtecmnmaaopkdfaaGreatPageLockTi
namespace Go.Proofs.YtecmnmaaopkdfaaGreat.gen
open Go Go.Sh
set_option linter.unusedVariables false
set_option linter.unusedSimpArgs false
set_option maxRecDepth 20000
set_option maxHeartbeats 4000000
theorem aR4 (p0 r) (h : jT p0 = some r) : Sc 240 [aX (M.Registration.en p0)] [(true, M.Registration.rs r)] := by
 unfold jT at h
 exact sgo 17 [.cell 2 194] Tryz.func240
instance : bC 240 (type_of% @aR4) := ⟨@aR4⟩
theorem aR1 (p0 r) (h : tY p0 = some r) : Sc 309 [aL enB p0] [rW 5 1 enB r] := by
 have i1 := inv fun m s => ∃ v4 : Int, ∃ r7 : List Int, (s.t 0 = vL enB p0 ∧ s.t 3 = vR 100007 1 ∧ s.t 4 = vI v4 ∧ s.h 100007 = (1, oW 5 1 enB r7)) ∧ lP p0 m v4 r7 = some r
 have e1 := @lP.eq_2
 unfold tY at h
 exact sgo 22 [.tmp 2] Tryz.func309
instance : bC 309 (type_of% @aR1) := ⟨@aR1⟩
theorem aRe (p0 r) (h : qO p0 = some r) : Sc 415 [aX (M.Response.en p0)] [(true, M.Response.rs r)] := by
 unfold qO at h
 exact sgo 21 [.cell 2 110] Tryz.func415
instance : bC 415 (type_of% @aRe) := ⟨@aRe⟩
theorem aQT (p0 r) (h : vV p0 = some r) : Sc 406 [aX (M.Cached.en p0)] [(true, M.Cached.rs r)] := by
 unfold vV at h
 exact sgo 15 [.cell 2 352] Tryz.func406
instance : bC 406 (type_of% @aQT) := ⟨@aQT⟩
theorem aQb (p0 r) (h : tD p0 = some r) : Sc 390 [aL M.Cached.en p0] [rW 352 7 M.Cached.en r] := by
 have i1 := inv fun m s => ∃ v4 : Int, ∃ r7 : List M.Cached, (s.t 0 = vL M.Cached.en p0 ∧ s.t 3 = vR 100007 1 ∧ s.t 4 = vI v4 ∧ s.h 100007 = (1, oW 352 7 M.Cached.en r7)) ∧ jK p0 m v4 r7 = some r
 have e1 := @jK.eq_2
 unfold tD at h
 exact sgo 23 [.tmp 2] Tryz.func390
instance : bC 390 (type_of% @aQb) := ⟨@aQb⟩
theorem aQ0 (p0 r) (h : yX p0 = some r) : Sc 359 [aX (M.Cache.en p0)] [(true, M.Cache.rs r)] := by
 unfold yX at h
 exact sgo 12 [.cell 2 342] Tryz.func359
instance : bC 359 (type_of% @aQ0) := ⟨@aQ0⟩
theorem aRb (p0 r) (h : vA p0 = some r) : Sc 307 [aL M.Cache.en p0] [rW 342 2 M.Cache.en r] := by
 have i1 := inv fun m s => ∃ v4 : Int, ∃ r7 : List M.Cache, (s.t 0 = vL M.Cache.en p0 ∧ s.t 3 = vR 100007 1 ∧ s.t 4 = vI v4 ∧ s.h 100007 = (1, oW 342 2 M.Cache.en r7)) ∧ kD p0 m v4 r7 = some r
 have e1 := @kD.eq_2
 unfold vA at h
 exact sgo 23 [.tmp 2] Tryz.func307
instance : bC 307 (type_of% @aRb) := ⟨@aRb⟩
theorem aSQ (p0 r) (h : pC p0 = some r) : Sc 241 [aX (M.aT.en p0)] [(true, M.aT.rs r)] := by
 unfold pC at h
 exact sgo 9 [.cell 2 197] Tryz.func241
instance : bC 241 (type_of% @aSQ) := ⟨@aSQ⟩
theorem aTg (p0 r) (h : zI p0 = some r) : Sc 313 [aX (M.Key.en p0)] [(true, M.Key.rs r)] := by
 unfold zI at h
 exact sgo 14 [.cell 2 251] Tryz.func313
instance : bC 313 (type_of% @aTg) := ⟨@aTg⟩
theorem aTQ (p0 r) (h : yA p0 = some r) : Sc 407 [aX (M.Field.en p0)] [(true, M.Field.rs r)] := by
 unfold yA at h
 exact sgo 11 [.cell 2 347] Tryz.func407
instance : bC 407 (type_of% @aTQ) := ⟨@aTQ⟩
theorem aRz (p0 r) (h : vN p0 = some r) : Sc 392 [aL M.Field.en p0] [rW 347 2 M.Field.en r] := by
 have i1 := inv fun m s => ∃ v4 : Int, ∃ r7 : List M.Field, (s.t 0 = vL M.Field.en p0 ∧ s.t 3 = vR 100007 1 ∧ s.t 4 = vI v4 ∧ s.h 100007 = (1, oW 347 2 M.Field.en r7)) ∧ kE p0 m v4 r7 = some r
 have e1 := @kE.eq_2
 unfold vN at h
 exact sgo 23 [.tmp 2] Tryz.func392
instance : bC 392 (type_of% @aRz) := ⟨@aRz⟩
theorem aSj (p0 r) (h : uX p0 = some r) : Sc 363 [aX (M.aU.en p0)] [(true, M.aU.rs r)] := by
 unfold uX at h
 exact sgo 9 [.cell 2 285] Tryz.func363
instance : bC 363 (type_of% @aSj) := ⟨@aSj⟩
theorem aSR (p0 r) (h : aAT p0 = some r) : Sc 312 [aX (M.Item.en p0)] [(true, M.Item.rs r)] := by
 unfold aAT at h
 exact sgo 13 [.cell 2 287] Tryz.func312
instance : bC 312 (type_of% @aSR) := ⟨@aSR⟩
theorem aRV (p0 r) (h : xT p0 = some r) : Sc 247 [aL M.Item.en p0] [rW 287 4 M.Item.en r] := by
 have i1 := inv fun m s => ∃ v4 : Int, ∃ r7 : List M.Item, (s.t 0 = vL M.Item.en p0 ∧ s.t 3 = vR 100007 1 ∧ s.t 4 = vI v4 ∧ s.h 100007 = (1, oW 287 4 M.Item.en r7)) ∧ lI p0 m v4 r7 = some r
 have e1 := @lI.eq_2
 unfold xT at h
 exact sgo 23 [.tmp 2] Tryz.func247
instance : bC 247 (type_of% @aRV) := ⟨@aRV⟩
theorem aTC (p0 r) (h : oL p0 = some r) : Sc 180 [aX (M.aH.en p0)] [(true, M.aH.rs r)] := by
 unfold oL at h
 exact sgo 15 [.cell 2 141] Tryz.func180
instance : bC 180 (type_of% @aTC) := ⟨@aTC⟩
theorem aQ2 (p0 r) (h : vZ p0 = some r) : Sc 360 [aL M.aH.en p0] [rW 141 3 M.aH.en r] := by
 have i1 := inv fun m s => ∃ v4 : Int, ∃ r7 : List M.aH, (s.t 0 = vL M.aH.en p0 ∧ s.t 3 = vR 100007 1 ∧ s.t 4 = vI v4 ∧ s.h 100007 = (1, oW 141 3 M.aH.en r7)) ∧ jX p0 m v4 r7 = some r
 have e1 := @jX.eq_2
 unfold vZ at h
 exact sgo 23 [.tmp 2] Tryz.func360
instance : bC 360 (type_of% @aQ2) := ⟨@aQ2⟩
theorem aRH (p0 r) (h : pW p0 = some r) : Sc 391 [aX (M.aA.en p0)] [(true, M.aA.rs r)] := by
 unfold pW at h
 exact sgo 11 [.cell 2 345] Tryz.func391
instance : bC 391 (type_of% @aRH) := ⟨@aRH⟩
theorem aP3 (p0 r) (h : nJ p0 = some r) : Sc 361 [aL M.aA.en p0] [rW 345 2 M.aA.en r] := by
 have i1 := inv fun m s => ∃ v4 : Int, ∃ r7 : List M.aA, (s.t 0 = vL M.aA.en p0 ∧ s.t 3 = vR 100007 1 ∧ s.t 4 = vI v4 ∧ s.h 100007 = (1, oW 345 2 M.aA.en r7)) ∧ iD p0 m v4 r7 = some r
 have e1 := @iD.eq_2
 unfold nJ at h
 exact sgo 23 [.tmp 2] Tryz.func361
instance : bC 361 (type_of% @aP3) := ⟨@aP3⟩
theorem aRF (p0 r) (h : pI p0 = some r) : Sc 308 [aX (M.Database.en p0)] [(true, M.Database.rs r)] := by
 unfold pI at h
 exact sgo 19 [.cell 2 201] Tryz.func308
instance : bC 308 (type_of% @aRF) := ⟨@aRF⟩
theorem aTb (p0 r) (h : aAX p0 = some r) : Sc 242 [aX (M.bE.en p0)] [(true, M.bE.rs r)] := by
 unfold aAX at h
 exact sgo 16 [.cell 2 203] Tryz.func242
instance : bC 242 (type_of% @aTb) := ⟨@aTb⟩
theorem aSs (p0 r) (h : xL p0 = some r) : Sc 249 [aX (M.aW.en p0)] [(true, M.aW.rs r)] := by
 unfold xL at h
 exact sgo 21 [.cell 2 253] Tryz.func249
instance : bC 249 (type_of% @aSs) := ⟨@aSs⟩
theorem aQI (p0 r) (h : pQ p0 = some r) : Sc 182 [aL M.aW.en p0] [rW 253 7 M.aW.en r] := by
 have i1 := inv fun m s => ∃ v4 : Int, ∃ r7 : List M.aW, (s.t 0 = vL M.aW.en p0 ∧ s.t 3 = vR 100007 1 ∧ s.t 4 = vI v4 ∧ s.h 100007 = (1, oW 253 7 M.aW.en r7)) ∧ kA p0 m v4 r7 = some r
 have e1 := @kA.eq_2
 unfold pQ at h
 exact sgo 23 [.tmp 2] Tryz.func182
instance : bC 182 (type_of% @aQI) := ⟨@aQI⟩
theorem aSd (p0 r) (h : wJ p0 = some r) : Sc 362 [aX (M.aV.en p0)] [(true, M.aV.rs r)] := by
 unfold wJ at h
 exact sgo 15 [.cell 2 205] Tryz.func362
instance : bC 362 (type_of% @aSd) := ⟨@aSd⟩
theorem aTL (p0 r) (h : aAE p0 = some r) : Sc 310 [aX (M.Sync.en p0)] [(true, M.Sync.rs r)] := by
 unfold aAE at h
 exact sgo 15 [.cell 2 207] Tryz.func310
instance : bC 310 (type_of% @aTL) := ⟨@aTL⟩
theorem aTX (p0 r) (h : tO p0 = some r) : Sc 243 [aX (M.aC.en p0)] [(true, M.aC.rs r)] := by
 unfold tO at h
 exact sgo 16 [.cell 2 209] Tryz.func243
instance : bC 243 (type_of% @aTX) := ⟨@aTX⟩
theorem aTY (p0 r) (h : uL p0 = some r) : Sc 174 [aX (M.aE.en p0)] [(true, M.aE.rs r)] := by
 unfold uL at h
 exact sgo 33 [.cell 2 211] Tryz.func174
instance : bC 174 (type_of% @aTY) := ⟨@aTY⟩
theorem c91 (p0 r) (h : sY p0 = some r) : Sc 91 [aL M.aE.en p0] [rW 211 24 M.aE.en r] := by
 have i1 := inv fun m s => ∃ v4 : Int, ∃ r7 : List M.aE, (s.t 0 = vL M.aE.en p0 ∧ s.t 3 = vR 100007 1 ∧ s.t 4 = vI v4 ∧ s.h 100007 = (1, oW 211 24 M.aE.en r7)) ∧ iZ p0 m v4 r7 = some r
 have e1 := @iZ.eq_2
 unfold sY at h
 exact sgo 23 [.tmp 2] Tryz.func91
instance : bC 91 (type_of% @c91) := ⟨@c91⟩
theorem c30 (p0 r) (h : tI p0 = some r) : Sc 30 [aX (M.aM.en p0)] [(true, M.aM.rs r)] := by
 unfold tI at h
 exact sgo 9 [.cell 2 39] Tryz.func30
instance : bC 30 (type_of% @c30) := ⟨@c30⟩
theorem aTH (p0 r) (h : wB p0 = some r) : Sc 244 [aX (M.aN.en p0)] [(true, M.aN.rs r)] := by
 unfold wB at h
 exact sgo 11 [.cell 2 213] Tryz.func244
instance : bC 244 (type_of% @aTH) := ⟨@aTH⟩
theorem aSv (p0 r) (h : rZ p0 = some r) : Sc 175 [aL M.aN.en p0] [rW 213 2 M.aN.en r] := by
 have i1 := inv fun m s => ∃ v4 : Int, ∃ r7 : List M.aN, (s.t 0 = vL M.aN.en p0 ∧ s.t 3 = vR 100007 1 ∧ s.t 4 = vI v4 ∧ s.h 100007 = (1, oW 213 2 M.aN.en r7)) ∧ jI p0 m v4 r7 = some r
 have e1 := @jI.eq_2
 unfold rZ at h
 exact sgo 23 [.tmp 2] Tryz.func175
instance : bC 175 (type_of% @aSv) := ⟨@aSv⟩
theorem aSF (p0 r) (h : xW p0 = some r) : Sc 311 [aX (M.Instr.en p0)] [(true, M.Instr.rs r)] := by
 unfold xW at h
 exact sgo 17 [.cell 2 282] Tryz.func311
instance : bC 311 (type_of% @aSF) := ⟨@aSF⟩
theorem aTR (p0 r) (h : vE p0 = some r) : Sc 245 [aL M.Instr.en p0] [rW 282 4 M.Instr.en r] := by
 have i1 := inv fun m s => ∃ v4 : Int, ∃ r7 : List M.Instr, (s.t 0 = vL M.Instr.en p0 ∧ s.t 3 = vR 100007 1 ∧ s.t 4 = vI v4 ∧ s.h 100007 = (1, oW 282 4 M.Instr.en r7)) ∧ jZ p0 m v4 r7 = some r
 have e1 := @jZ.eq_2
 unfold vE at h
 exact sgo 23 [.tmp 2] Tryz.func245
instance : bC 245 (type_of% @aTR) := ⟨@aTR⟩
theorem aS3 (p0 r) (h : aAb p0 = some r) : Sc 246 [aL enI p0] [rW 3 1 enI r] := by
 have i1 := inv fun m s => ∃ v4 : Int, ∃ r7 : List Int, (s.t 0 = vL enI p0 ∧ s.t 3 = vR 100007 1 ∧ s.t 4 = vI v4 ∧ s.h 100007 = (1, oW 3 1 enI r7)) ∧ mU p0 m v4 r7 = some r
 have e1 := @mU.eq_2
 unfold aAb at h
 exact sgo 22 [.tmp 2] Tryz.func246
instance : bC 246 (type_of% @aS3) := ⟨@aS3⟩
theorem aSa (p0 r) (h : sZ p0 = some r) : Sc 176 [aX (M.Machine.en p0)] [(true, M.Machine.rs r)] := by
 unfold sZ at h
 exact sgo 25 [.cell 2 102] Tryz.func176
instance : bC 176 (type_of% @aSa) := ⟨@aSa⟩
theorem c92 (p0 r) (h : aAf p0 = some r) : Sc 92 [aX (M.bG.en p0)] [(true, M.bG.rs r)] := by
 unfold aAf at h
 exact sgo 25 [.cell 2 104] Tryz.func92
instance : bC 92 (type_of% @c92) := ⟨@c92⟩
theorem c31 (p0 r) (h : xN p0 = some r) : Sc 31 [aL M.bG.en p0] [rW 104 11 M.bG.en r] := by
 have i1 := inv fun m s => ∃ v4 : Int, ∃ r7 : List M.bG, (s.t 0 = vL M.bG.en p0 ∧ s.t 3 = vR 100007 1 ∧ s.t 4 = vI v4 ∧ s.h 100007 = (1, oW 104 11 M.bG.en r7)) ∧ lH p0 m v4 r7 = some r
 have e1 := @lH.eq_2
 unfold xN at h
 exact sgo 23 [.tmp 2] Tryz.func31
instance : bC 31 (type_of% @c31) := ⟨@c31⟩
theorem aSX (p0 r) (h : aAk p0 = some r) : Sc 177 [aX (M.bK.en p0)] [(true, M.bK.rs r)] := by
 unfold aAk at h
 exact sgo 17 [.cell 2 186] Tryz.func177
instance : bC 177 (type_of% @aSX) := ⟨@aSX⟩
theorem c93 (p0 r) (h : xS p0 = some r) : Sc 93 [aL M.bK.en p0] [rW 186 4 M.bK.en r] := by
 have i1 := inv fun m s => ∃ v4 : Int, ∃ r7 : List M.bK, (s.t 0 = vL M.bK.en p0 ∧ s.t 3 = vR 100007 1 ∧ s.t 4 = vI v4 ∧ s.h 100007 = (1, oW 186 4 M.bK.en r7)) ∧ lD p0 m v4 r7 = some r
 have e1 := @lD.eq_2
 unfold xS at h
 exact sgo 23 [.tmp 2] Tryz.func93
instance : bC 93 (type_of% @c93) := ⟨@c93⟩
theorem c32 (p0 r) (h : oH p0 = some r) : Sc 32 [aX (M.aF.en p0)] [(true, M.aF.rs r)] := by
 unfold oH at h
 exact sgo 9 [.cell 2 43] Tryz.func32
instance : bC 32 (type_of% @c32) := ⟨@c32⟩
theorem aS1 (p0 r) (h : aAS p0 = some r) : Sc 178 [aX (M.fD.en p0)] [(true, M.fD.rs r)] := by
 unfold aAS at h
 exact sgo 14 [.cell 2 183] Tryz.func178
instance : bC 178 (type_of% @aS1) := ⟨@aS1⟩
theorem c94 (p0 r) (h : yO p0 = some r) : Sc 94 [aL M.fD.en p0] [rW 183 3 M.fD.en r] := by
 have i1 := inv fun m s => ∃ v4 : Int, ∃ r7 : List M.fD, (s.t 0 = vL M.fD.en p0 ∧ s.t 3 = vR 100007 1 ∧ s.t 4 = vI v4 ∧ s.h 100007 = (1, oW 183 3 M.fD.en r7)) ∧ lQ p0 m v4 r7 = some r
 have e1 := @lQ.eq_2
 unfold yO at h
 exact sgo 23 [.tmp 2] Tryz.func94
instance : bC 94 (type_of% @c94) := ⟨@c94⟩
theorem c33 (p0 r) (h : sE p0 = some r) : Sc 33 [aX (M.Channel.en p0)] [(true, M.Channel.rs r)] := by
 unfold sE at h
 exact sgo 9 [.cell 2 46] Tryz.func33
instance : bC 33 (type_of% @c33) := ⟨@c33⟩
theorem aRW (p0 r) (h : sR p0 = some r) : Sc 179 [aL enS p0] [rW 9 1 enS r] := by
 have i1 := inv fun m s => ∃ v4 : Int, ∃ r7 : List ByteArray, (s.t 0 = vL enS p0 ∧ s.t 3 = vR 100007 1 ∧ s.t 4 = vI v4 ∧ s.h 100007 = (1, oW 9 1 enS r7)) ∧ jM p0 m v4 r7 = some r
 have e1 := @jM.eq_2
 unfold sR at h
 exact sgo 22 [.tmp 2] Tryz.func179
instance : bC 179 (type_of% @aRW) := ⟨@aRW⟩
theorem c95 (p0 r) (h : aAL p0 = some r) : Sc 95 [aX (M.Site.en p0)] [(true, M.Site.rs r)] := by
 unfold aAL at h
 exact sgo 18 [.cell 2 75] Tryz.func95
instance : bC 95 (type_of% @c95) := ⟨@c95⟩
theorem c34 (p0 r) (h : xV p0 = some r) : Sc 34 [aL M.Site.en p0] [rW 75 4 M.Site.en r] := by
 have i1 := inv fun m s => ∃ v4 : Int, ∃ r7 : List M.Site, (s.t 0 = vL M.Site.en p0 ∧ s.t 3 = vR 100007 1 ∧ s.t 4 = vI v4 ∧ s.h 100007 = (1, oW 75 4 M.Site.en r7)) ∧ lK p0 m v4 r7 = some r
 have e1 := @lK.eq_2
 unfold xV at h
 exact sgo 23 [.tmp 2] Tryz.func34
instance : bC 34 (type_of% @c34) := ⟨@c34⟩
theorem aRp (p0 r) (h : tP p0 = some r) : Sc 248 [aX (M.aJ.en p0)] [(true, M.aJ.rs r)] := by
 unfold tP at h
 exact sgo 11 [.cell 2 248] Tryz.func248
instance : bC 248 (type_of% @aRp) := ⟨@aRp⟩
theorem aQY (p0 r) (h : qN p0 = some r) : Sc 181 [aL M.aJ.en p0] [rW 248 2 M.aJ.en r] := by
 have i1 := inv fun m s => ∃ v4 : Int, ∃ r7 : List M.aJ, (s.t 0 = vL M.aJ.en p0 ∧ s.t 3 = vR 100007 1 ∧ s.t 4 = vI v4 ∧ s.h 100007 = (1, oW 248 2 M.aJ.en r7)) ∧ iQ p0 m v4 r7 = some r
 have e1 := @iQ.eq_2
 unfold qN at h
 exact sgo 23 [.tmp 2] Tryz.func181
instance : bC 181 (type_of% @aQY) := ⟨@aQY⟩
theorem c96 (p0 r) (h : uU p0 = some r) : Sc 96 [aX (M.Server.en p0)] [(true, M.Server.rs r)] := by
 unfold uU at h
 exact sgo 17 [.cell 2 145] Tryz.func96
instance : bC 96 (type_of% @c96) := ⟨@c96⟩
theorem c35 (p0 r) (h : sU p0 = some r) : Sc 35 [aL M.Server.en p0] [rW 145 5 M.Server.en r] := by
 have i1 := inv fun m s => ∃ v4 : Int, ∃ r7 : List M.Server, (s.t 0 = vL M.Server.en p0 ∧ s.t 3 = vR 100007 1 ∧ s.t 4 = vI v4 ∧ s.h 100007 = (1, oW 145 5 M.Server.en r7)) ∧ jG p0 m v4 r7 = some r
 have e1 := @jG.eq_2
 unfold sU at h
 exact sgo 23 [.tmp 2] Tryz.func35
instance : bC 35 (type_of% @c35) := ⟨@c35⟩
theorem c9 (p0 r) (h : lA p0 = some r) : Sc 9 [aX (M.World.en p0)] [(true, M.World.rs r)] := by
 unfold lA at h
 exact sgo 41 [.cell 2 50] Tryz.func9
instance : bC 9 (type_of% @c9) := ⟨@c9⟩
end Go.Proofs.YtecmnmaaopkdfaaGreat.gen
