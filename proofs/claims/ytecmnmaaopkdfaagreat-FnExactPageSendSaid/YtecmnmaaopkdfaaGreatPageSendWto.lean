/-
  Helper text. No conditions.
-/
import Derived.Test.YtecmnmaaopkdfaaGreatPageSendTi
namespace Go.Proofs.YtecmnmaaopkdfaaGreat.gen
open Go Go.Sh
set_option linter.unusedVariables false
set_option linter.unusedSimpArgs false
set_option maxRecDepth 20000
set_option maxHeartbeats 4000000
theorem aQJ (p0 r) (h : jN p0 = some r) : Sc 240 [aX (M.Registration.en p0)] [(true, M.Registration.rs r)] := by
 unfold jN at h
 exact sgo 17 [.cell 2 194] Tryz.func240
instance : bD 240 (type_of% @aQJ) := ⟨@aQJ⟩
theorem aTC (p0 r) (h : tV p0 = some r) : Sc 309 [aL enB p0] [rW 5 1 enB r] := by
 have i1 := inv fun m s => ∃ v4 : Int, ∃ r7 : List Int, (s.t 0 = vL enB p0 ∧ s.t 3 = vR 100007 1 ∧ s.t 4 = vI v4 ∧ s.h 100007 = (1, oW 5 1 enB r7)) ∧ kZ p0 m v4 r7 = some r
 have e1 := @kZ.eq_2
 unfold tV at h
 exact sgo 22 [.tmp 2] Tryz.func309
instance : bD 309 (type_of% @aTC) := ⟨@aTC⟩
theorem aSe (p0 r) (h : oZ p0 = some r) : Sc 415 [aX (M.Response.en p0)] [(true, M.Response.rs r)] := by
 unfold oZ at h
 exact sgo 21 [.cell 2 110] Tryz.func415
instance : bD 415 (type_of% @aSe) := ⟨@aSe⟩
theorem aRM (p0 r) (h : uX p0 = some r) : Sc 406 [aX (M.Cached.en p0)] [(true, M.Cached.rs r)] := by
 unfold uX at h
 exact sgo 15 [.cell 2 352] Tryz.func406
instance : bD 406 (type_of% @aRM) := ⟨@aRM⟩
theorem aRz (p0 r) (h : sM p0 = some r) : Sc 390 [aL M.Cached.en p0] [rW 352 7 M.Cached.en r] := by
 have i1 := inv fun m s => ∃ v4 : Int, ∃ r7 : List M.Cached, (s.t 0 = vL M.Cached.en p0 ∧ s.t 3 = vR 100007 1 ∧ s.t 4 = vI v4 ∧ s.h 100007 = (1, oW 352 7 M.Cached.en r7)) ∧ iV p0 m v4 r7 = some r
 have e1 := @iV.eq_2
 unfold sM at h
 exact sgo 23 [.tmp 2] Tryz.func390
instance : bD 390 (type_of% @aRz) := ⟨@aRz⟩
theorem aRR (p0 r) (h : xI p0 = some r) : Sc 359 [aX (M.Cache.en p0)] [(true, M.Cache.rs r)] := by
 unfold xI at h
 exact sgo 12 [.cell 2 342] Tryz.func359
instance : bD 359 (type_of% @aRR) := ⟨@aRR⟩
theorem aR7 (p0 r) (h : vE p0 = some r) : Sc 307 [aL M.Cache.en p0] [rW 342 2 M.Cache.en r] := by
 have i1 := inv fun m s => ∃ v4 : Int, ∃ r7 : List M.Cache, (s.t 0 = vL M.Cache.en p0 ∧ s.t 3 = vR 100007 1 ∧ s.t 4 = vI v4 ∧ s.h 100007 = (1, oW 342 2 M.Cache.en r7)) ∧ kB p0 m v4 r7 = some r
 have e1 := @kB.eq_2
 unfold vE at h
 exact sgo 23 [.tmp 2] Tryz.func307
instance : bD 307 (type_of% @aR7) := ⟨@aR7⟩
theorem aS2 (p0 r) (h : pI p0 = some r) : Sc 241 [aX (M.aT.en p0)] [(true, M.aT.rs r)] := by
 unfold pI at h
 exact sgo 9 [.cell 2 197] Tryz.func241
instance : bD 241 (type_of% @aS2) := ⟨@aS2⟩
theorem aPm (p0 r) (h : zD p0 = some r) : Sc 313 [aX (M.Key.en p0)] [(true, M.Key.rs r)] := by
 unfold zD at h
 exact sgo 14 [.cell 2 251] Tryz.func313
instance : bD 313 (type_of% @aPm) := ⟨@aPm⟩
theorem aQA (p0 r) (h : xW p0 = some r) : Sc 407 [aX (M.Field.en p0)] [(true, M.Field.rs r)] := by
 unfold xW at h
 exact sgo 11 [.cell 2 347] Tryz.func407
instance : bD 407 (type_of% @aQA) := ⟨@aQA⟩
theorem aQP (p0 r) (h : uY p0 = some r) : Sc 392 [aL M.Field.en p0] [rW 347 2 M.Field.en r] := by
 have i1 := inv fun m s => ∃ v4 : Int, ∃ r7 : List M.Field, (s.t 0 = vL M.Field.en p0 ∧ s.t 3 = vR 100007 1 ∧ s.t 4 = vI v4 ∧ s.h 100007 = (1, oW 347 2 M.Field.en r7)) ∧ jV p0 m v4 r7 = some r
 have e1 := @jV.eq_2
 unfold uY at h
 exact sgo 23 [.tmp 2] Tryz.func392
instance : bD 392 (type_of% @aQP) := ⟨@aQP⟩
theorem aSH (p0 r) (h : vQ p0 = some r) : Sc 363 [aX (M.aU.en p0)] [(true, M.aU.rs r)] := by
 unfold vQ at h
 exact sgo 9 [.cell 2 285] Tryz.func363
instance : bD 363 (type_of% @aSH) := ⟨@aSH⟩
theorem aTW (p0 r) (h : zX p0 = some r) : Sc 312 [aX (M.Item.en p0)] [(true, M.Item.rs r)] := by
 unfold zX at h
 exact sgo 13 [.cell 2 287] Tryz.func312
instance : bD 312 (type_of% @aTW) := ⟨@aTW⟩
theorem aSm (p0 r) (h : yT p0 = some r) : Sc 247 [aL M.Item.en p0] [rW 287 4 M.Item.en r] := by
 have i1 := inv fun m s => ∃ v4 : Int, ∃ r7 : List M.Item, (s.t 0 = vL M.Item.en p0 ∧ s.t 3 = vR 100007 1 ∧ s.t 4 = vI v4 ∧ s.h 100007 = (1, oW 287 4 M.Item.en r7)) ∧ lA p0 m v4 r7 = some r
 have e1 := @lA.eq_2
 unfold yT at h
 exact sgo 23 [.tmp 2] Tryz.func247
instance : bD 247 (type_of% @aSm) := ⟨@aSm⟩
theorem aQf (p0 r) (h : oK p0 = some r) : Sc 180 [aX (M.aG.en p0)] [(true, M.aG.rs r)] := by
 unfold oK at h
 exact sgo 15 [.cell 2 141] Tryz.func180
instance : bD 180 (type_of% @aQf) := ⟨@aQf⟩
theorem aSR (p0 r) (h : wB p0 = some r) : Sc 360 [aL M.aG.en p0] [rW 141 3 M.aG.en r] := by
 have i1 := inv fun m s => ∃ v4 : Int, ∃ r7 : List M.aG, (s.t 0 = vL M.aG.en p0 ∧ s.t 3 = vR 100007 1 ∧ s.t 4 = vI v4 ∧ s.h 100007 = (1, oW 141 3 M.aG.en r7)) ∧ jW p0 m v4 r7 = some r
 have e1 := @jW.eq_2
 unfold wB at h
 exact sgo 23 [.tmp 2] Tryz.func360
instance : bD 360 (type_of% @aSR) := ⟨@aSR⟩
theorem aS1 (p0 r) (h : qN p0 = some r) : Sc 391 [aX (M.aA.en p0)] [(true, M.aA.rs r)] := by
 unfold qN at h
 exact sgo 11 [.cell 2 345] Tryz.func391
instance : bD 391 (type_of% @aS1) := ⟨@aS1⟩
theorem aTA (p0 r) (h : oD p0 = some r) : Sc 361 [aL M.aA.en p0] [rW 345 2 M.aA.en r] := by
 have i1 := inv fun m s => ∃ v4 : Int, ∃ r7 : List M.aA, (s.t 0 = vL M.aA.en p0 ∧ s.t 3 = vR 100007 1 ∧ s.t 4 = vI v4 ∧ s.h 100007 = (1, oW 345 2 M.aA.en r7)) ∧ hZ p0 m v4 r7 = some r
 have e1 := @hZ.eq_2
 unfold oD at h
 exact sgo 23 [.tmp 2] Tryz.func361
instance : bD 361 (type_of% @aTA) := ⟨@aTA⟩
theorem aRk (p0 r) (h : pA p0 = some r) : Sc 308 [aX (M.Database.en p0)] [(true, M.Database.rs r)] := by
 unfold pA at h
 exact sgo 19 [.cell 2 201] Tryz.func308
instance : bD 308 (type_of% @aRk) := ⟨@aRk⟩
theorem aTR (p0 r) (h : aAQ p0 = some r) : Sc 242 [aX (M.bG.en p0)] [(true, M.bG.rs r)] := by
 unfold aAQ at h
 exact sgo 16 [.cell 2 203] Tryz.func242
instance : bD 242 (type_of% @aTR) := ⟨@aTR⟩
theorem aPp (p0 r) (h : yW p0 = some r) : Sc 249 [aX (M.aW.en p0)] [(true, M.aW.rs r)] := by
 unfold yW at h
 exact sgo 21 [.cell 2 253] Tryz.func249
instance : bD 249 (type_of% @aPp) := ⟨@aPp⟩
theorem aQp (p0 r) (h : qP p0 = some r) : Sc 182 [aL M.aW.en p0] [rW 253 7 M.aW.en r] := by
 have i1 := inv fun m s => ∃ v4 : Int, ∃ r7 : List M.aW, (s.t 0 = vL M.aW.en p0 ∧ s.t 3 = vR 100007 1 ∧ s.t 4 = vI v4 ∧ s.h 100007 = (1, oW 253 7 M.aW.en r7)) ∧ jX p0 m v4 r7 = some r
 have e1 := @jX.eq_2
 unfold qP at h
 exact sgo 23 [.tmp 2] Tryz.func182
instance : bD 182 (type_of% @aQp) := ⟨@aQp⟩
theorem aS4 (p0 r) (h : uO p0 = some r) : Sc 362 [aX (M.aV.en p0)] [(true, M.aV.rs r)] := by
 unfold uO at h
 exact sgo 15 [.cell 2 205] Tryz.func362
instance : bD 362 (type_of% @aS4) := ⟨@aS4⟩
theorem aTS (p0 r) (h : aAS p0 = some r) : Sc 310 [aX (M.Sync.en p0)] [(true, M.Sync.rs r)] := by
 unfold aAS at h
 exact sgo 15 [.cell 2 207] Tryz.func310
instance : bD 310 (type_of% @aTS) := ⟨@aTS⟩
theorem aRV (p0 r) (h : tG p0 = some r) : Sc 243 [aX (M.aC.en p0)] [(true, M.aC.rs r)] := by
 unfold tG at h
 exact sgo 16 [.cell 2 209] Tryz.func243
instance : bD 243 (type_of% @aRV) := ⟨@aRV⟩
theorem aSt (p0 r) (h : wE p0 = some r) : Sc 174 [aX (M.aE.en p0)] [(true, M.aE.rs r)] := by
 unfold wE at h
 exact sgo 33 [.cell 2 211] Tryz.func174
instance : bD 174 (type_of% @aSt) := ⟨@aSt⟩
theorem c91 (p0 r) (h : sA p0 = some r) : Sc 91 [aL M.aE.en p0] [rW 211 24 M.aE.en r] := by
 have i1 := inv fun m s => ∃ v4 : Int, ∃ r7 : List M.aE, (s.t 0 = vL M.aE.en p0 ∧ s.t 3 = vR 100007 1 ∧ s.t 4 = vI v4 ∧ s.h 100007 = (1, oW 211 24 M.aE.en r7)) ∧ iY p0 m v4 r7 = some r
 have e1 := @iY.eq_2
 unfold sA at h
 exact sgo 23 [.tmp 2] Tryz.func91
instance : bD 91 (type_of% @c91) := ⟨@c91⟩
theorem c30 (p0 r) (h : sL p0 = some r) : Sc 30 [aX (M.aK.en p0)] [(true, M.aK.rs r)] := by
 unfold sL at h
 exact sgo 9 [.cell 2 39] Tryz.func30
instance : bD 30 (type_of% @c30) := ⟨@c30⟩
theorem aPj (p0 r) (h : uU p0 = some r) : Sc 244 [aX (M.aM.en p0)] [(true, M.aM.rs r)] := by
 unfold uU at h
 exact sgo 11 [.cell 2 213] Tryz.func244
instance : bD 244 (type_of% @aPj) := ⟨@aPj⟩
theorem aRL (p0 r) (h : sO p0 = some r) : Sc 175 [aL M.aM.en p0] [rW 213 2 M.aM.en r] := by
 have i1 := inv fun m s => ∃ v4 : Int, ∃ r7 : List M.aM, (s.t 0 = vL M.aM.en p0 ∧ s.t 3 = vR 100007 1 ∧ s.t 4 = vI v4 ∧ s.h 100007 = (1, oW 213 2 M.aM.en r7)) ∧ jF p0 m v4 r7 = some r
 have e1 := @jF.eq_2
 unfold sO at h
 exact sgo 23 [.tmp 2] Tryz.func175
instance : bD 175 (type_of% @aRL) := ⟨@aRL⟩
theorem aQs (p0 r) (h : xP p0 = some r) : Sc 311 [aX (M.Instr.en p0)] [(true, M.Instr.rs r)] := by
 unfold xP at h
 exact sgo 17 [.cell 2 282] Tryz.func311
instance : bD 311 (type_of% @aQs) := ⟨@aQs⟩
theorem aQG (p0 r) (h : vN p0 = some r) : Sc 245 [aL M.Instr.en p0] [rW 282 4 M.Instr.en r] := by
 have i1 := inv fun m s => ∃ v4 : Int, ∃ r7 : List M.Instr, (s.t 0 = vL M.Instr.en p0 ∧ s.t 3 = vR 100007 1 ∧ s.t 4 = vI v4 ∧ s.h 100007 = (1, oW 282 4 M.Instr.en r7)) ∧ jT p0 m v4 r7 = some r
 have e1 := @jT.eq_2
 unfold vN at h
 exact sgo 23 [.tmp 2] Tryz.func245
instance : bD 245 (type_of% @aQG) := ⟨@aQG⟩
theorem aQx (p0 r) (h : zU p0 = some r) : Sc 246 [aL enI p0] [rW 3 1 enI r] := by
 have i1 := inv fun m s => ∃ v4 : Int, ∃ r7 : List Int, (s.t 0 = vL enI p0 ∧ s.t 3 = vR 100007 1 ∧ s.t 4 = vI v4 ∧ s.h 100007 = (1, oW 3 1 enI r7)) ∧ mR p0 m v4 r7 = some r
 have e1 := @mR.eq_2
 unfold zU at h
 exact sgo 22 [.tmp 2] Tryz.func246
instance : bD 246 (type_of% @aQx) := ⟨@aQx⟩
theorem aTJ (p0 r) (h : sY p0 = some r) : Sc 176 [aX (M.Machine.en p0)] [(true, M.Machine.rs r)] := by
 unfold sY at h
 exact sgo 25 [.cell 2 102] Tryz.func176
instance : bD 176 (type_of% @aTJ) := ⟨@aTJ⟩
theorem c92 (p0 r) (h : aAC p0 = some r) : Sc 92 [aX (M.bF.en p0)] [(true, M.bF.rs r)] := by
 unfold aAC at h
 exact sgo 25 [.cell 2 104] Tryz.func92
instance : bD 92 (type_of% @c92) := ⟨@c92⟩
theorem c31 (p0 r) (h : yE p0 = some r) : Sc 31 [aL M.bF.en p0] [rW 104 11 M.bF.en r] := by
 have i1 := inv fun m s => ∃ v4 : Int, ∃ r7 : List M.bF, (s.t 0 = vL M.bF.en p0 ∧ s.t 3 = vR 100007 1 ∧ s.t 4 = vI v4 ∧ s.h 100007 = (1, oW 104 11 M.bF.en r7)) ∧ lN p0 m v4 r7 = some r
 have e1 := @lN.eq_2
 unfold yE at h
 exact sgo 23 [.tmp 2] Tryz.func31
instance : bD 31 (type_of% @c31) := ⟨@c31⟩
theorem aPz (p0 r) (h : zV p0 = some r) : Sc 177 [aX (M.bZ.en p0)] [(true, M.bZ.rs r)] := by
 unfold zV at h
 exact sgo 17 [.cell 2 186] Tryz.func177
instance : bD 177 (type_of% @aPz) := ⟨@aPz⟩
theorem c93 (p0 r) (h : yZ p0 = some r) : Sc 93 [aL M.bZ.en p0] [rW 186 4 M.bZ.en r] := by
 have i1 := inv fun m s => ∃ v4 : Int, ∃ r7 : List M.bZ, (s.t 0 = vL M.bZ.en p0 ∧ s.t 3 = vR 100007 1 ∧ s.t 4 = vI v4 ∧ s.h 100007 = (1, oW 186 4 M.bZ.en r7)) ∧ lD p0 m v4 r7 = some r
 have e1 := @lD.eq_2
 unfold yZ at h
 exact sgo 23 [.tmp 2] Tryz.func93
instance : bD 93 (type_of% @c93) := ⟨@c93⟩
theorem c32 (p0 r) (h : nR p0 = some r) : Sc 32 [aX (M.aQ.en p0)] [(true, M.aQ.rs r)] := by
 unfold nR at h
 exact sgo 9 [.cell 2 43] Tryz.func32
instance : bD 32 (type_of% @c32) := ⟨@c32⟩
theorem aQi (p0 r) (h : aAk p0 = some r) : Sc 178 [aX (M.cN.en p0)] [(true, M.cN.rs r)] := by
 unfold aAk at h
 exact sgo 14 [.cell 2 183] Tryz.func178
instance : bD 178 (type_of% @aQi) := ⟨@aQi⟩
theorem c94 (p0 r) (h : yA p0 = some r) : Sc 94 [aL M.cN.en p0] [rW 183 3 M.cN.en r] := by
 have i1 := inv fun m s => ∃ v4 : Int, ∃ r7 : List M.cN, (s.t 0 = vL M.cN.en p0 ∧ s.t 3 = vR 100007 1 ∧ s.t 4 = vI v4 ∧ s.h 100007 = (1, oW 183 3 M.cN.en r7)) ∧ lL p0 m v4 r7 = some r
 have e1 := @lL.eq_2
 unfold yA at h
 exact sgo 23 [.tmp 2] Tryz.func94
instance : bD 94 (type_of% @c94) := ⟨@c94⟩
theorem c33 (p0 r) (h : sG p0 = some r) : Sc 33 [aX (M.Channel.en p0)] [(true, M.Channel.rs r)] := by
 unfold sG at h
 exact sgo 9 [.cell 2 46] Tryz.func33
instance : bD 33 (type_of% @c33) := ⟨@c33⟩
theorem aQZ (p0 r) (h : rY p0 = some r) : Sc 179 [aL enS p0] [rW 9 1 enS r] := by
 have i1 := inv fun m s => ∃ v4 : Int, ∃ r7 : List ByteArray, (s.t 0 = vL enS p0 ∧ s.t 3 = vR 100007 1 ∧ s.t 4 = vI v4 ∧ s.h 100007 = (1, oW 9 1 enS r7)) ∧ jB p0 m v4 r7 = some r
 have e1 := @jB.eq_2
 unfold rY at h
 exact sgo 22 [.tmp 2] Tryz.func179
instance : bD 179 (type_of% @aQZ) := ⟨@aQZ⟩
theorem c95 (p0 r) (h : zP p0 = some r) : Sc 95 [aX (M.Site.en p0)] [(true, M.Site.rs r)] := by
 unfold zP at h
 exact sgo 18 [.cell 2 75] Tryz.func95
instance : bD 95 (type_of% @c95) := ⟨@c95⟩
theorem c34 (p0 r) (h : yS p0 = some r) : Sc 34 [aL M.Site.en p0] [rW 75 4 M.Site.en r] := by
 have i1 := inv fun m s => ∃ v4 : Int, ∃ r7 : List M.Site, (s.t 0 = vL M.Site.en p0 ∧ s.t 3 = vR 100007 1 ∧ s.t 4 = vI v4 ∧ s.h 100007 = (1, oW 75 4 M.Site.en r7)) ∧ lP p0 m v4 r7 = some r
 have e1 := @lP.eq_2
 unfold yS at h
 exact sgo 23 [.tmp 2] Tryz.func34
instance : bD 34 (type_of% @c34) := ⟨@c34⟩
theorem aRe (p0 r) (h : rQ p0 = some r) : Sc 248 [aX (M.aH.en p0)] [(true, M.aH.rs r)] := by
 unfold rQ at h
 exact sgo 11 [.cell 2 248] Tryz.func248
instance : bD 248 (type_of% @aRe) := ⟨@aRe⟩
theorem aQX (p0 r) (h : qK p0 = some r) : Sc 181 [aL M.aH.en p0] [rW 248 2 M.aH.en r] := by
 have i1 := inv fun m s => ∃ v4 : Int, ∃ r7 : List M.aH, (s.t 0 = vL M.aH.en p0 ∧ s.t 3 = vR 100007 1 ∧ s.t 4 = vI v4 ∧ s.h 100007 = (1, oW 248 2 M.aH.en r7)) ∧ iO p0 m v4 r7 = some r
 have e1 := @iO.eq_2
 unfold qK at h
 exact sgo 23 [.tmp 2] Tryz.func181
instance : bD 181 (type_of% @aQX) := ⟨@aQX⟩
theorem c96 (p0 r) (h : uT p0 = some r) : Sc 96 [aX (M.Server.en p0)] [(true, M.Server.rs r)] := by
 unfold uT at h
 exact sgo 17 [.cell 2 145] Tryz.func96
instance : bD 96 (type_of% @c96) := ⟨@c96⟩
theorem c35 (p0 r) (h : sW p0 = some r) : Sc 35 [aL M.Server.en p0] [rW 145 5 M.Server.en r] := by
 have i1 := inv fun m s => ∃ v4 : Int, ∃ r7 : List M.Server, (s.t 0 = vL M.Server.en p0 ∧ s.t 3 = vR 100007 1 ∧ s.t 4 = vI v4 ∧ s.h 100007 = (1, oW 145 5 M.Server.en r7)) ∧ iW p0 m v4 r7 = some r
 have e1 := @iW.eq_2
 unfold sW at h
 exact sgo 23 [.tmp 2] Tryz.func35
instance : bD 35 (type_of% @c35) := ⟨@c35⟩
theorem c9 (p0 r) (h : kW p0 = some r) : Sc 9 [aX (M.World.en p0)] [(true, M.World.rs r)] := by
 unfold kW at h
 exact sgo 41 [.cell 2 50] Tryz.func9
instance : bD 9 (type_of% @c9) := ⟨@c9⟩
end Go.Proofs.YtecmnmaaopkdfaaGreat.gen
