/-
  Helper text. No conditions.
-/
import Derived.Test.YtecmnmaaopkdfaaGreatLoadPageFileTi
namespace Go.Proofs.YtecmnmaaopkdfaaGreat.gen
open Go Go.Sh
set_option linter.unusedVariables false
set_option linter.unusedSimpArgs false
set_option maxRecDepth 20000
set_option maxHeartbeats 4000000
theorem aVH (p0 r) (h : kF p0 = some r) : Sc 240 [aX (M.Registration.en p0)] [(true, M.Registration.rs r)] := by
 unfold kF at h
 exact sgo 17 [.cell 2 194] Tryz.func240
instance : bC 240 (type_of% @aVH) := ⟨@aVH⟩
theorem aT5 (p0 r) (h : vE p0 = some r) : Sc 309 [aL enB p0] [rW 5 1 enB r] := by
 have i1 := inv fun m s => ∃ v4 : Int, ∃ r7 : List Int, (s.t 0 = vL enB p0 ∧ s.t 3 = vR 100007 1 ∧ s.t 4 = vI v4 ∧ s.h 100007 = (1, oW 5 1 enB r7)) ∧ mA p0 m v4 r7 = some r
 have e1 := @mA.eq_2
 unfold vE at h
 exact sgo 22 [.tmp 2] Tryz.func309
instance : bC 309 (type_of% @aT5) := ⟨@aT5⟩
theorem aUz (p0 r) (h : qX p0 = some r) : Sc 415 [aX (M.Response.en p0)] [(true, M.Response.rs r)] := by
 unfold qX at h
 exact sgo 21 [.cell 2 110] Tryz.func415
instance : bC 415 (type_of% @aUz) := ⟨@aUz⟩
theorem aR0 (p0 r) (h : wV p0 = some r) : Sc 406 [aX (M.Cached.en p0)] [(true, M.Cached.rs r)] := by
 unfold wV at h
 exact sgo 15 [.cell 2 352] Tryz.func406
instance : bC 406 (type_of% @aR0) := ⟨@aR0⟩
theorem aTn (p0 r) (h : tL p0 = some r) : Sc 390 [aL M.Cached.en p0] [rW 352 7 M.Cached.en r] := by
 have i1 := inv fun m s => ∃ v4 : Int, ∃ r7 : List M.Cached, (s.t 0 = vL M.Cached.en p0 ∧ s.t 3 = vR 100007 1 ∧ s.t 4 = vI v4 ∧ s.h 100007 = (1, oW 352 7 M.Cached.en r7)) ∧ jK p0 m v4 r7 = some r
 have e1 := @jK.eq_2
 unfold tL at h
 exact sgo 23 [.tmp 2] Tryz.func390
instance : bC 390 (type_of% @aTn) := ⟨@aTn⟩
theorem aTX (p0 r) (h : aAI p0 = some r) : Sc 359 [aX (M.Cache.en p0)] [(true, M.Cache.rs r)] := by
 unfold aAI at h
 exact sgo 12 [.cell 2 342] Tryz.func359
instance : bC 359 (type_of% @aTX) := ⟨@aTX⟩
theorem aQ4 (p0 r) (h : wX p0 = some r) : Sc 307 [aL M.Cache.en p0] [rW 342 2 M.Cache.en r] := by
 have i1 := inv fun m s => ∃ v4 : Int, ∃ r7 : List M.Cache, (s.t 0 = vL M.Cache.en p0 ∧ s.t 3 = vR 100007 1 ∧ s.t 4 = vI v4 ∧ s.h 100007 = (1, oW 342 2 M.Cache.en r7)) ∧ kZ p0 m v4 r7 = some r
 have e1 := @kZ.eq_2
 unfold wX at h
 exact sgo 23 [.tmp 2] Tryz.func307
instance : bC 307 (type_of% @aQ4) := ⟨@aQ4⟩
theorem aU3 (p0 r) (h : rD p0 = some r) : Sc 241 [aX (M.aP.en p0)] [(true, M.aP.rs r)] := by
 unfold rD at h
 exact sgo 9 [.cell 2 197] Tryz.func241
instance : bC 241 (type_of% @aU3) := ⟨@aU3⟩
theorem aUs (p0 r) (h : aAN p0 = some r) : Sc 313 [aX (M.Key.en p0)] [(true, M.Key.rs r)] := by
 unfold aAN at h
 exact sgo 14 [.cell 2 251] Tryz.func313
instance : bC 313 (type_of% @aUs) := ⟨@aUs⟩
theorem aRn (p0 r) (h : yK p0 = some r) : Sc 407 [aX (M.Field.en p0)] [(true, M.Field.rs r)] := by
 unfold yK at h
 exact sgo 11 [.cell 2 347] Tryz.func407
instance : bC 407 (type_of% @aRn) := ⟨@aRn⟩
theorem aT0 (p0 r) (h : wF p0 = some r) : Sc 392 [aL M.Field.en p0] [rW 347 2 M.Field.en r] := by
 have i1 := inv fun m s => ∃ v4 : Int, ∃ r7 : List M.Field, (s.t 0 = vL M.Field.en p0 ∧ s.t 3 = vR 100007 1 ∧ s.t 4 = vI v4 ∧ s.h 100007 = (1, oW 347 2 M.Field.en r7)) ∧ kT p0 m v4 r7 = some r
 have e1 := @kT.eq_2
 unfold wF at h
 exact sgo 23 [.tmp 2] Tryz.func392
instance : bC 392 (type_of% @aT0) := ⟨@aT0⟩
theorem aSc (p0 r) (h : xQ p0 = some r) : Sc 363 [aX (M.aU.en p0)] [(true, M.aU.rs r)] := by
 unfold xQ at h
 exact sgo 9 [.cell 2 285] Tryz.func363
instance : bC 363 (type_of% @aSc) := ⟨@aSc⟩
theorem aSG (p0 r) (h : aAj p0 = some r) : Sc 312 [aX (M.Item.en p0)] [(true, M.Item.rs r)] := by
 unfold aAj at h
 exact sgo 13 [.cell 2 287] Tryz.func312
instance : bC 312 (type_of% @aSG) := ⟨@aSG⟩
theorem aUf (p0 r) (h : zC p0 = some r) : Sc 247 [aL M.Item.en p0] [rW 287 4 M.Item.en r] := by
 have i1 := inv fun m s => ∃ v4 : Int, ∃ r7 : List M.Item, (s.t 0 = vL M.Item.en p0 ∧ s.t 3 = vR 100007 1 ∧ s.t 4 = vI v4 ∧ s.h 100007 = (1, oW 287 4 M.Item.en r7)) ∧ mG p0 m v4 r7 = some r
 have e1 := @mG.eq_2
 unfold zC at h
 exact sgo 23 [.tmp 2] Tryz.func247
instance : bC 247 (type_of% @aUf) := ⟨@aUf⟩
theorem aUI (p0 r) (h : pQ p0 = some r) : Sc 180 [aX (M.aG.en p0)] [(true, M.aG.rs r)] := by
 unfold pQ at h
 exact sgo 15 [.cell 2 141] Tryz.func180
instance : bC 180 (type_of% @aUI) := ⟨@aUI⟩
theorem aRW (p0 r) (h : xI p0 = some r) : Sc 360 [aL M.aG.en p0] [rW 141 3 M.aG.en r] := by
 have i1 := inv fun m s => ∃ v4 : Int, ∃ r7 : List M.aG, (s.t 0 = vL M.aG.en p0 ∧ s.t 3 = vR 100007 1 ∧ s.t 4 = vI v4 ∧ s.h 100007 = (1, oW 141 3 M.aG.en r7)) ∧ kV p0 m v4 r7 = some r
 have e1 := @kV.eq_2
 unfold xI at h
 exact sgo 23 [.tmp 2] Tryz.func360
instance : bC 360 (type_of% @aRW) := ⟨@aRW⟩
theorem aUN (p0 r) (h : qC p0 = some r) : Sc 391 [aX (M.aA.en p0)] [(true, M.aA.rs r)] := by
 unfold qC at h
 exact sgo 11 [.cell 2 345] Tryz.func391
instance : bC 391 (type_of% @aUN) := ⟨@aUN⟩
theorem aUJ (p0 r) (h : oS p0 = some r) : Sc 361 [aL M.aA.en p0] [rW 345 2 M.aA.en r] := by
 have i1 := inv fun m s => ∃ v4 : Int, ∃ r7 : List M.aA, (s.t 0 = vL M.aA.en p0 ∧ s.t 3 = vR 100007 1 ∧ s.t 4 = vI v4 ∧ s.h 100007 = (1, oW 345 2 M.aA.en r7)) ∧ iM p0 m v4 r7 = some r
 have e1 := @iM.eq_2
 unfold oS at h
 exact sgo 23 [.tmp 2] Tryz.func361
instance : bC 361 (type_of% @aUJ) := ⟨@aUJ⟩
theorem aSp (p0 r) (h : qL p0 = some r) : Sc 308 [aX (M.Database.en p0)] [(true, M.Database.rs r)] := by
 unfold qL at h
 exact sgo 19 [.cell 2 201] Tryz.func308
instance : bC 308 (type_of% @aSp) := ⟨@aSp⟩
theorem aSF (p0 r) (h : aA6 p0 = some r) : Sc 242 [aX (M.bF.en p0)] [(true, M.bF.rs r)] := by
 unfold aA6 at h
 exact sgo 16 [.cell 2 203] Tryz.func242
instance : bC 242 (type_of% @aSF) := ⟨@aSF⟩
theorem aRa (p0 r) (h : zL p0 = some r) : Sc 249 [aX (M.aW.en p0)] [(true, M.aW.rs r)] := by
 unfold zL at h
 exact sgo 21 [.cell 2 253] Tryz.func249
instance : bC 249 (type_of% @aRa) := ⟨@aRa⟩
theorem aRN (p0 r) (h : qV p0 = some r) : Sc 182 [aL M.aW.en p0] [rW 253 7 M.aW.en r] := by
 have i1 := inv fun m s => ∃ v4 : Int, ∃ r7 : List M.aW, (s.t 0 = vL M.aW.en p0 ∧ s.t 3 = vR 100007 1 ∧ s.t 4 = vI v4 ∧ s.h 100007 = (1, oW 253 7 M.aW.en r7)) ∧ kQ p0 m v4 r7 = some r
 have e1 := @kQ.eq_2
 unfold qV at h
 exact sgo 23 [.tmp 2] Tryz.func182
instance : bC 182 (type_of% @aRN) := ⟨@aRN⟩
theorem aQ7 (p0 r) (h : wA p0 = some r) : Sc 362 [aX (M.aV.en p0)] [(true, M.aV.rs r)] := by
 unfold wA at h
 exact sgo 15 [.cell 2 205] Tryz.func362
instance : bC 362 (type_of% @aQ7) := ⟨@aQ7⟩
theorem aTk (p0 r) (h : aAi p0 = some r) : Sc 310 [aX (M.Sync.en p0)] [(true, M.Sync.rs r)] := by
 unfold aAi at h
 exact sgo 15 [.cell 2 207] Tryz.func310
instance : bC 310 (type_of% @aTk) := ⟨@aTk⟩
theorem aTE (p0 r) (h : tV p0 = some r) : Sc 243 [aX (M.aC.en p0)] [(true, M.aC.rs r)] := by
 unfold tV at h
 exact sgo 16 [.cell 2 209] Tryz.func243
instance : bC 243 (type_of% @aTE) := ⟨@aTE⟩
theorem aTD (p0 r) (h : wG p0 = some r) : Sc 174 [aX (M.aE.en p0)] [(true, M.aE.rs r)] := by
 unfold wG at h
 exact sgo 33 [.cell 2 211] Tryz.func174
instance : bC 174 (type_of% @aTD) := ⟨@aTD⟩
theorem c91 (p0 r) (h : uL p0 = some r) : Sc 91 [aL M.aE.en p0] [rW 211 24 M.aE.en r] := by
 have i1 := inv fun m s => ∃ v4 : Int, ∃ r7 : List M.aE, (s.t 0 = vL M.aE.en p0 ∧ s.t 3 = vR 100007 1 ∧ s.t 4 = vI v4 ∧ s.h 100007 = (1, oW 211 24 M.aE.en r7)) ∧ jW p0 m v4 r7 = some r
 have e1 := @jW.eq_2
 unfold uL at h
 exact sgo 23 [.tmp 2] Tryz.func91
instance : bC 91 (type_of% @c91) := ⟨@c91⟩
theorem c30 (p0 r) (h : uX p0 = some r) : Sc 30 [aX (M.aK.en p0)] [(true, M.aK.rs r)] := by
 unfold uX at h
 exact sgo 9 [.cell 2 39] Tryz.func30
instance : bC 30 (type_of% @c30) := ⟨@c30⟩
theorem aS2 (p0 r) (h : xT p0 = some r) : Sc 244 [aX (M.aJ.en p0)] [(true, M.aJ.rs r)] := by
 unfold xT at h
 exact sgo 11 [.cell 2 213] Tryz.func244
instance : bC 244 (type_of% @aS2) := ⟨@aS2⟩
theorem aVJ (p0 r) (h : uM p0 = some r) : Sc 175 [aL M.aJ.en p0] [rW 213 2 M.aJ.en r] := by
 have i1 := inv fun m s => ∃ v4 : Int, ∃ r7 : List M.aJ, (s.t 0 = vL M.aJ.en p0 ∧ s.t 3 = vR 100007 1 ∧ s.t 4 = vI v4 ∧ s.h 100007 = (1, oW 213 2 M.aJ.en r7)) ∧ jP p0 m v4 r7 = some r
 have e1 := @jP.eq_2
 unfold uM at h
 exact sgo 23 [.tmp 2] Tryz.func175
instance : bC 175 (type_of% @aVJ) := ⟨@aVJ⟩
theorem aSg (p0 r) (h : aAC p0 = some r) : Sc 311 [aX (M.Instr.en p0)] [(true, M.Instr.rs r)] := by
 unfold aAC at h
 exact sgo 17 [.cell 2 282] Tryz.func311
instance : bC 311 (type_of% @aSg) := ⟨@aSg⟩
theorem aS8 (p0 r) (h : vZ p0 = some r) : Sc 245 [aL M.Instr.en p0] [rW 282 4 M.Instr.en r] := by
 have i1 := inv fun m s => ∃ v4 : Int, ∃ r7 : List M.Instr, (s.t 0 = vL M.Instr.en p0 ∧ s.t 3 = vR 100007 1 ∧ s.t 4 = vI v4 ∧ s.h 100007 = (1, oW 282 4 M.Instr.en r7)) ∧ kW p0 m v4 r7 = some r
 have e1 := @kW.eq_2
 unfold vZ at h
 exact sgo 23 [.tmp 2] Tryz.func245
instance : bC 245 (type_of% @aS8) := ⟨@aS8⟩
theorem aSM (p0 r) (h : aAn p0 = some r) : Sc 246 [aL enI p0] [rW 3 1 enI r] := by
 have i1 := inv fun m s => ∃ v4 : Int, ∃ r7 : List Int, (s.t 0 = vL enI p0 ∧ s.t 3 = vR 100007 1 ∧ s.t 4 = vI v4 ∧ s.h 100007 = (1, oW 3 1 enI r7)) ∧ nH p0 m v4 r7 = some r
 have e1 := @nH.eq_2
 unfold aAn at h
 exact sgo 22 [.tmp 2] Tryz.func246
instance : bC 246 (type_of% @aSM) := ⟨@aSM⟩
theorem aUU (p0 r) (h : tO p0 = some r) : Sc 176 [aX (M.Machine.en p0)] [(true, M.Machine.rs r)] := by
 unfold tO at h
 exact sgo 25 [.cell 2 102] Tryz.func176
instance : bC 176 (type_of% @aUU) := ⟨@aUU⟩
theorem c92 (p0 r) (h : aAp p0 = some r) : Sc 92 [aX (M.bG.en p0)] [(true, M.bG.rs r)] := by
 unfold aAp at h
 exact sgo 25 [.cell 2 104] Tryz.func92
instance : bC 92 (type_of% @c92) := ⟨@c92⟩
theorem c31 (p0 r) (h : zR p0 = some r) : Sc 31 [aL M.bG.en p0] [rW 104 11 M.bG.en r] := by
 have i1 := inv fun m s => ∃ v4 : Int, ∃ r7 : List M.bG, (s.t 0 = vL M.bG.en p0 ∧ s.t 3 = vR 100007 1 ∧ s.t 4 = vI v4 ∧ s.h 100007 = (1, oW 104 11 M.bG.en r7)) ∧ lX p0 m v4 r7 = some r
 have e1 := @lX.eq_2
 unfold zR at h
 exact sgo 23 [.tmp 2] Tryz.func31
instance : bC 31 (type_of% @c31) := ⟨@c31⟩
theorem aRI (p0 r) (h : aAV p0 = some r) : Sc 177 [aX (M.cF.en p0)] [(true, M.cF.rs r)] := by
 unfold aAV at h
 exact sgo 17 [.cell 2 186] Tryz.func177
instance : bC 177 (type_of% @aRI) := ⟨@aRI⟩
theorem c93 (p0 r) (h : yW p0 = some r) : Sc 93 [aL M.cF.en p0] [rW 186 4 M.cF.en r] := by
 have i1 := inv fun m s => ∃ v4 : Int, ∃ r7 : List M.cF, (s.t 0 = vL M.cF.en p0 ∧ s.t 3 = vR 100007 1 ∧ s.t 4 = vI v4 ∧ s.h 100007 = (1, oW 186 4 M.cF.en r7)) ∧ lW p0 m v4 r7 = some r
 have e1 := @lW.eq_2
 unfold yW at h
 exact sgo 23 [.tmp 2] Tryz.func93
instance : bC 93 (type_of% @c93) := ⟨@c93⟩
theorem c32 (p0 r) (h : oO p0 = some r) : Sc 32 [aX (M.aR.en p0)] [(true, M.aR.rs r)] := by
 unfold oO at h
 exact sgo 9 [.cell 2 43] Tryz.func32
instance : bC 32 (type_of% @c32) := ⟨@c32⟩
theorem aSh (p0 r) (h : aAf p0 = some r) : Sc 178 [aX (M.fH.en p0)] [(true, M.fH.rs r)] := by
 unfold aAf at h
 exact sgo 14 [.cell 2 183] Tryz.func178
instance : bC 178 (type_of% @aSh) := ⟨@aSh⟩
theorem c94 (p0 r) (h : aAA p0 = some r) : Sc 94 [aL M.fH.en p0] [rW 183 3 M.fH.en r] := by
 have i1 := inv fun m s => ∃ v4 : Int, ∃ r7 : List M.fH, (s.t 0 = vL M.fH.en p0 ∧ s.t 3 = vR 100007 1 ∧ s.t 4 = vI v4 ∧ s.h 100007 = (1, oW 183 3 M.fH.en r7)) ∧ mI p0 m v4 r7 = some r
 have e1 := @mI.eq_2
 unfold aAA at h
 exact sgo 23 [.tmp 2] Tryz.func94
instance : bC 94 (type_of% @c94) := ⟨@c94⟩
theorem c33 (p0 r) (h : uI p0 = some r) : Sc 33 [aX (M.Channel.en p0)] [(true, M.Channel.rs r)] := by
 unfold uI at h
 exact sgo 9 [.cell 2 46] Tryz.func33
instance : bC 33 (type_of% @c33) := ⟨@c33⟩
theorem aTs (p0 r) (h : uT p0 = some r) : Sc 179 [aL enS p0] [rW 9 1 enS r] := by
 have i1 := inv fun m s => ∃ v4 : Int, ∃ r7 : List ByteArray, (s.t 0 = vL enS p0 ∧ s.t 3 = vR 100007 1 ∧ s.t 4 = vI v4 ∧ s.h 100007 = (1, oW 9 1 enS r7)) ∧ jT p0 m v4 r7 = some r
 have e1 := @jT.eq_2
 unfold uT at h
 exact sgo 22 [.tmp 2] Tryz.func179
instance : bC 179 (type_of% @aTs) := ⟨@aTs⟩
theorem c95 (p0 r) (h : aAv p0 = some r) : Sc 95 [aX (M.Site.en p0)] [(true, M.Site.rs r)] := by
 unfold aAv at h
 exact sgo 18 [.cell 2 75] Tryz.func95
instance : bC 95 (type_of% @c95) := ⟨@c95⟩
theorem c34 (p0 r) (h : yV p0 = some r) : Sc 34 [aL M.Site.en p0] [rW 75 4 M.Site.en r] := by
 have i1 := inv fun m s => ∃ v4 : Int, ∃ r7 : List M.Site, (s.t 0 = vL M.Site.en p0 ∧ s.t 3 = vR 100007 1 ∧ s.t 4 = vI v4 ∧ s.h 100007 = (1, oW 75 4 M.Site.en r7)) ∧ mH p0 m v4 r7 = some r
 have e1 := @mH.eq_2
 unfold yV at h
 exact sgo 23 [.tmp 2] Tryz.func34
instance : bC 34 (type_of% @c34) := ⟨@c34⟩
theorem aRE (p0 r) (h : sZ p0 = some r) : Sc 248 [aX (M.aH.en p0)] [(true, M.aH.rs r)] := by
 unfold sZ at h
 exact sgo 11 [.cell 2 248] Tryz.func248
instance : bC 248 (type_of% @aRE) := ⟨@aRE⟩
theorem aTL (p0 r) (h : rA p0 = some r) : Sc 181 [aL M.aH.en p0] [rW 248 2 M.aH.en r] := by
 have i1 := inv fun m s => ∃ v4 : Int, ∃ r7 : List M.aH, (s.t 0 = vL M.aH.en p0 ∧ s.t 3 = vR 100007 1 ∧ s.t 4 = vI v4 ∧ s.h 100007 = (1, oW 248 2 M.aH.en r7)) ∧ jC p0 m v4 r7 = some r
 have e1 := @jC.eq_2
 unfold rA at h
 exact sgo 23 [.tmp 2] Tryz.func181
instance : bC 181 (type_of% @aTL) := ⟨@aTL⟩
theorem c96 (p0 r) (h : xL p0 = some r) : Sc 96 [aX (M.Server.en p0)] [(true, M.Server.rs r)] := by
 unfold xL at h
 exact sgo 17 [.cell 2 145] Tryz.func96
instance : bC 96 (type_of% @c96) := ⟨@c96⟩
theorem c35 (p0 r) (h : tB p0 = some r) : Sc 35 [aL M.Server.en p0] [rW 145 5 M.Server.en r] := by
 have i1 := inv fun m s => ∃ v4 : Int, ∃ r7 : List M.Server, (s.t 0 = vL M.Server.en p0 ∧ s.t 3 = vR 100007 1 ∧ s.t 4 = vI v4 ∧ s.h 100007 = (1, oW 145 5 M.Server.en r7)) ∧ jM p0 m v4 r7 = some r
 have e1 := @jM.eq_2
 unfold tB at h
 exact sgo 23 [.tmp 2] Tryz.func35
instance : bC 35 (type_of% @c35) := ⟨@c35⟩
theorem c9 (p0 r) (h : lS p0 = some r) : Sc 9 [aX (M.World.en p0)] [(true, M.World.rs r)] := by
 unfold lS at h
 exact sgo 41 [.cell 2 50] Tryz.func9
instance : bC 9 (type_of% @c9) := ⟨@c9⟩
end Go.Proofs.YtecmnmaaopkdfaaGreat.gen
