/-
  Helper text. No conditions.
-/
import Derived.Test.YtecmnmaaopkdfaaGreatReleaseSiteTi
namespace Go.Proofs.YtecmnmaaopkdfaaGreat.gen
open Go Go.Sh
set_option linter.unusedVariables false
set_option linter.unusedSimpArgs false
set_option maxRecDepth 20000
set_option maxHeartbeats 4000000
theorem aQt (p0 r) (h : jH p0 = some r) : Sc 240 [aX (M.Registration.en p0)] [(true, M.Registration.rs r)] := by
 unfold jH at h
 exact sgo 17 [.cell 2 194] Tryz.func240
instance : bD 240 (type_of% @aQt) := ⟨@aQt⟩
theorem aQM (p0 r) (h : tM p0 = some r) : Sc 309 [aL enB p0] [rW 5 1 enB r] := by
 have i1 := inv fun m s => ∃ v4 : Int, ∃ r7 : List Int, (s.t 0 = vL enB p0 ∧ s.t 3 = vR 100007 1 ∧ s.t 4 = vI v4 ∧ s.h 100007 = (1, oW 5 1 enB r7)) ∧ lE p0 m v4 r7 = some r
 have e1 := @lE.eq_2
 unfold tM at h
 exact sgo 22 [.tmp 2] Tryz.func309
instance : bD 309 (type_of% @aQM) := ⟨@aQM⟩
theorem aSC (p0 r) (h : oZ p0 = some r) : Sc 415 [aX (M.Response.en p0)] [(true, M.Response.rs r)] := by
 unfold oZ at h
 exact sgo 21 [.cell 2 110] Tryz.func415
instance : bD 415 (type_of% @aSC) := ⟨@aSC⟩
theorem aSy (p0 r) (h : uV p0 = some r) : Sc 406 [aX (M.Cached.en p0)] [(true, M.Cached.rs r)] := by
 unfold uV at h
 exact sgo 15 [.cell 2 352] Tryz.func406
instance : bD 406 (type_of% @aSy) := ⟨@aSy⟩
theorem aRO (p0 r) (h : sH p0 = some r) : Sc 390 [aL M.Cached.en p0] [rW 352 7 M.Cached.en r] := by
 have i1 := inv fun m s => ∃ v4 : Int, ∃ r7 : List M.Cached, (s.t 0 = vL M.Cached.en p0 ∧ s.t 3 = vR 100007 1 ∧ s.t 4 = vI v4 ∧ s.h 100007 = (1, oW 352 7 M.Cached.en r7)) ∧ iQ p0 m v4 r7 = some r
 have e1 := @iQ.eq_2
 unfold sH at h
 exact sgo 23 [.tmp 2] Tryz.func390
instance : bD 390 (type_of% @aRO) := ⟨@aRO⟩
theorem aSZ (p0 r) (h : xH p0 = some r) : Sc 359 [aX (M.Cache.en p0)] [(true, M.Cache.rs r)] := by
 unfold xH at h
 exact sgo 12 [.cell 2 342] Tryz.func359
instance : bD 359 (type_of% @aSZ) := ⟨@aSZ⟩
theorem aSj (p0 r) (h : vK p0 = some r) : Sc 307 [aL M.Cache.en p0] [rW 342 2 M.Cache.en r] := by
 have i1 := inv fun m s => ∃ v4 : Int, ∃ r7 : List M.Cache, (s.t 0 = vL M.Cache.en p0 ∧ s.t 3 = vR 100007 1 ∧ s.t 4 = vI v4 ∧ s.h 100007 = (1, oW 342 2 M.Cache.en r7)) ∧ jV p0 m v4 r7 = some r
 have e1 := @jV.eq_2
 unfold vK at h
 exact sgo 23 [.tmp 2] Tryz.func307
instance : bD 307 (type_of% @aSj) := ⟨@aSj⟩
theorem aQA (p0 r) (h : qL p0 = some r) : Sc 241 [aX (M.aT.en p0)] [(true, M.aT.rs r)] := by
 unfold qL at h
 exact sgo 9 [.cell 2 197] Tryz.func241
instance : bD 241 (type_of% @aQA) := ⟨@aQA⟩
theorem aSs (p0 r) (h : yP p0 = some r) : Sc 313 [aX (M.Key.en p0)] [(true, M.Key.rs r)] := by
 unfold yP at h
 exact sgo 14 [.cell 2 251] Tryz.func313
instance : bD 313 (type_of% @aSs) := ⟨@aSs⟩
theorem aQu (p0 r) (h : yM p0 = some r) : Sc 407 [aX (M.Field.en p0)] [(true, M.Field.rs r)] := by
 unfold yM at h
 exact sgo 11 [.cell 2 347] Tryz.func407
instance : bD 407 (type_of% @aQu) := ⟨@aQu⟩
theorem aSL (p0 r) (h : uF p0 = some r) : Sc 392 [aL M.Field.en p0] [rW 347 2 M.Field.en r] := by
 have i1 := inv fun m s => ∃ v4 : Int, ∃ r7 : List M.Field, (s.t 0 = vL M.Field.en p0 ∧ s.t 3 = vR 100007 1 ∧ s.t 4 = vI v4 ∧ s.h 100007 = (1, oW 347 2 M.Field.en r7)) ∧ jU p0 m v4 r7 = some r
 have e1 := @jU.eq_2
 unfold uF at h
 exact sgo 23 [.tmp 2] Tryz.func392
instance : bD 392 (type_of% @aSL) := ⟨@aSL⟩
theorem aRc (p0 r) (h : uI p0 = some r) : Sc 363 [aX (M.aU.en p0)] [(true, M.aU.rs r)] := by
 unfold uI at h
 exact sgo 9 [.cell 2 285] Tryz.func363
instance : bD 363 (type_of% @aRc) := ⟨@aRc⟩
theorem aQ7 (p0 r) (h : aAV p0 = some r) : Sc 312 [aX (M.Item.en p0)] [(true, M.Item.rs r)] := by
 unfold aAV at h
 exact sgo 13 [.cell 2 287] Tryz.func312
instance : bD 312 (type_of% @aQ7) := ⟨@aQ7⟩
theorem aQv (p0 r) (h : yI p0 = some r) : Sc 247 [aL M.Item.en p0] [rW 287 4 M.Item.en r] := by
 have i1 := inv fun m s => ∃ v4 : Int, ∃ r7 : List M.Item, (s.t 0 = vL M.Item.en p0 ∧ s.t 3 = vR 100007 1 ∧ s.t 4 = vI v4 ∧ s.h 100007 = (1, oW 287 4 M.Item.en r7)) ∧ kZ p0 m v4 r7 = some r
 have e1 := @kZ.eq_2
 unfold yI at h
 exact sgo 23 [.tmp 2] Tryz.func247
instance : bD 247 (type_of% @aQv) := ⟨@aQv⟩
theorem aR9 (p0 r) (h : oD p0 = some r) : Sc 180 [aX (M.aH.en p0)] [(true, M.aH.rs r)] := by
 unfold oD at h
 exact sgo 15 [.cell 2 141] Tryz.func180
instance : bD 180 (type_of% @aR9) := ⟨@aR9⟩
theorem aRt (p0 r) (h : uU p0 = some r) : Sc 360 [aL M.aH.en p0] [rW 141 3 M.aH.en r] := by
 have i1 := inv fun m s => ∃ v4 : Int, ∃ r7 : List M.aH, (s.t 0 = vL M.aH.en p0 ∧ s.t 3 = vR 100007 1 ∧ s.t 4 = vI v4 ∧ s.h 100007 = (1, oW 141 3 M.aH.en r7)) ∧ kA p0 m v4 r7 = some r
 have e1 := @kA.eq_2
 unfold uU at h
 exact sgo 23 [.tmp 2] Tryz.func360
instance : bD 360 (type_of% @aRt) := ⟨@aRt⟩
theorem aQJ (p0 r) (h : pM p0 = some r) : Sc 391 [aX (M.aA.en p0)] [(true, M.aA.rs r)] := by
 unfold pM at h
 exact sgo 11 [.cell 2 345] Tryz.func391
instance : bD 391 (type_of% @aQJ) := ⟨@aQJ⟩
theorem aPy (p0 r) (h : nR p0 = some r) : Sc 361 [aL M.aA.en p0] [rW 345 2 M.aA.en r] := by
 have i1 := inv fun m s => ∃ v4 : Int, ∃ r7 : List M.aA, (s.t 0 = vL M.aA.en p0 ∧ s.t 3 = vR 100007 1 ∧ s.t 4 = vI v4 ∧ s.h 100007 = (1, oW 345 2 M.aA.en r7)) ∧ hM p0 m v4 r7 = some r
 have e1 := @hM.eq_2
 unfold nR at h
 exact sgo 23 [.tmp 2] Tryz.func361
instance : bD 361 (type_of% @aPy) := ⟨@aPy⟩
theorem aRX (p0 r) (h : qI p0 = some r) : Sc 308 [aX (M.Database.en p0)] [(true, M.Database.rs r)] := by
 unfold qI at h
 exact sgo 19 [.cell 2 201] Tryz.func308
instance : bD 308 (type_of% @aRX) := ⟨@aRX⟩
theorem aSY (p0 r) (h : aAC p0 = some r) : Sc 242 [aX (M.bC.en p0)] [(true, M.bC.rs r)] := by
 unfold aAC at h
 exact sgo 16 [.cell 2 203] Tryz.func242
instance : bD 242 (type_of% @aSY) := ⟨@aSY⟩
theorem aQY (p0 r) (h : xM p0 = some r) : Sc 249 [aX (M.aW.en p0)] [(true, M.aW.rs r)] := by
 unfold xM at h
 exact sgo 21 [.cell 2 253] Tryz.func249
instance : bD 249 (type_of% @aQY) := ⟨@aQY⟩
theorem aSS (p0 r) (h : oS p0 = some r) : Sc 182 [aL M.aW.en p0] [rW 253 7 M.aW.en r] := by
 have i1 := inv fun m s => ∃ v4 : Int, ∃ r7 : List M.aW, (s.t 0 = vL M.aW.en p0 ∧ s.t 3 = vR 100007 1 ∧ s.t 4 = vI v4 ∧ s.h 100007 = (1, oW 253 7 M.aW.en r7)) ∧ jN p0 m v4 r7 = some r
 have e1 := @jN.eq_2
 unfold oS at h
 exact sgo 23 [.tmp 2] Tryz.func182
instance : bD 182 (type_of% @aSS) := ⟨@aSS⟩
theorem aRy (p0 r) (h : uD p0 = some r) : Sc 362 [aX (M.aV.en p0)] [(true, M.aV.rs r)] := by
 unfold uD at h
 exact sgo 15 [.cell 2 205] Tryz.func362
instance : bD 362 (type_of% @aRy) := ⟨@aRy⟩
theorem aRa (p0 r) (h : aAA p0 = some r) : Sc 310 [aX (M.Sync.en p0)] [(true, M.Sync.rs r)] := by
 unfold aAA at h
 exact sgo 15 [.cell 2 207] Tryz.func310
instance : bD 310 (type_of% @aRa) := ⟨@aRa⟩
theorem aPo (p0 r) (h : rJ p0 = some r) : Sc 243 [aX (M.aC.en p0)] [(true, M.aC.rs r)] := by
 unfold rJ at h
 exact sgo 16 [.cell 2 209] Tryz.func243
instance : bD 243 (type_of% @aPo) := ⟨@aPo⟩
theorem aPp (p0 r) (h : uK p0 = some r) : Sc 174 [aX (M.aE.en p0)] [(true, M.aE.rs r)] := by
 unfold uK at h
 exact sgo 33 [.cell 2 211] Tryz.func174
instance : bD 174 (type_of% @aPp) := ⟨@aPp⟩
theorem c91 (p0 r) (h : rU p0 = some r) : Sc 91 [aL M.aE.en p0] [rW 211 24 M.aE.en r] := by
 have i1 := inv fun m s => ∃ v4 : Int, ∃ r7 : List M.aE, (s.t 0 = vL M.aE.en p0 ∧ s.t 3 = vR 100007 1 ∧ s.t 4 = vI v4 ∧ s.h 100007 = (1, oW 211 24 M.aE.en r7)) ∧ jB p0 m v4 r7 = some r
 have e1 := @jB.eq_2
 unfold rU at h
 exact sgo 23 [.tmp 2] Tryz.func91
instance : bD 91 (type_of% @c91) := ⟨@c91⟩
theorem c30 (p0 r) (h : sW p0 = some r) : Sc 30 [aX (M.aK.en p0)] [(true, M.aK.rs r)] := by
 unfold sW at h
 exact sgo 9 [.cell 2 39] Tryz.func30
instance : bD 30 (type_of% @c30) := ⟨@c30⟩
theorem aS5 (p0 r) (h : vQ p0 = some r) : Sc 244 [aX (M.aM.en p0)] [(true, M.aM.rs r)] := by
 unfold vQ at h
 exact sgo 11 [.cell 2 213] Tryz.func244
instance : bD 244 (type_of% @aS5) := ⟨@aS5⟩
theorem aR2 (p0 r) (h : sK p0 = some r) : Sc 175 [aL M.aM.en p0] [rW 213 2 M.aM.en r] := by
 have i1 := inv fun m s => ∃ v4 : Int, ∃ r7 : List M.aM, (s.t 0 = vL M.aM.en p0 ∧ s.t 3 = vR 100007 1 ∧ s.t 4 = vI v4 ∧ s.h 100007 = (1, oW 213 2 M.aM.en r7)) ∧ iT p0 m v4 r7 = some r
 have e1 := @iT.eq_2
 unfold sK at h
 exact sgo 23 [.tmp 2] Tryz.func175
instance : bD 175 (type_of% @aR2) := ⟨@aR2⟩
theorem aSh (p0 r) (h : xV p0 = some r) : Sc 311 [aX (M.Instr.en p0)] [(true, M.Instr.rs r)] := by
 unfold xV at h
 exact sgo 17 [.cell 2 282] Tryz.func311
instance : bD 311 (type_of% @aSh) := ⟨@aSh⟩
theorem aRD (p0 r) (h : vG p0 = some r) : Sc 245 [aL M.Instr.en p0] [rW 282 4 M.Instr.en r] := by
 have i1 := inv fun m s => ∃ v4 : Int, ∃ r7 : List M.Instr, (s.t 0 = vL M.Instr.en p0 ∧ s.t 3 = vR 100007 1 ∧ s.t 4 = vI v4 ∧ s.h 100007 = (1, oW 282 4 M.Instr.en r7)) ∧ jY p0 m v4 r7 = some r
 have e1 := @jY.eq_2
 unfold vG at h
 exact sgo 23 [.tmp 2] Tryz.func245
instance : bD 245 (type_of% @aRD) := ⟨@aRD⟩
theorem aPf (p0 r) (h : zQ p0 = some r) : Sc 246 [aL enI p0] [rW 3 1 enI r] := by
 have i1 := inv fun m s => ∃ v4 : Int, ∃ r7 : List Int, (s.t 0 = vL enI p0 ∧ s.t 3 = vR 100007 1 ∧ s.t 4 = vI v4 ∧ s.h 100007 = (1, oW 3 1 enI r7)) ∧ mG p0 m v4 r7 = some r
 have e1 := @mG.eq_2
 unfold zQ at h
 exact sgo 22 [.tmp 2] Tryz.func246
instance : bD 246 (type_of% @aPf) := ⟨@aPf⟩
theorem aP6 (p0 r) (h : sM p0 = some r) : Sc 176 [aX (M.Machine.en p0)] [(true, M.Machine.rs r)] := by
 unfold sM at h
 exact sgo 25 [.cell 2 102] Tryz.func176
instance : bD 176 (type_of% @aP6) := ⟨@aP6⟩
theorem c92 (p0 r) (h : zA p0 = some r) : Sc 92 [aX (M.bJ.en p0)] [(true, M.bJ.rs r)] := by
 unfold zA at h
 exact sgo 25 [.cell 2 104] Tryz.func92
instance : bD 92 (type_of% @c92) := ⟨@c92⟩
theorem c31 (p0 r) (h : xI p0 = some r) : Sc 31 [aL M.bJ.en p0] [rW 104 11 M.bJ.en r] := by
 have i1 := inv fun m s => ∃ v4 : Int, ∃ r7 : List M.bJ, (s.t 0 = vL M.bJ.en p0 ∧ s.t 3 = vR 100007 1 ∧ s.t 4 = vI v4 ∧ s.h 100007 = (1, oW 104 11 M.bJ.en r7)) ∧ lM p0 m v4 r7 = some r
 have e1 := @lM.eq_2
 unfold xI at h
 exact sgo 23 [.tmp 2] Tryz.func31
instance : bD 31 (type_of% @c31) := ⟨@c31⟩
theorem aSm (p0 r) (h : aAB p0 = some r) : Sc 177 [aX (M.bY.en p0)] [(true, M.bY.rs r)] := by
 unfold aAB at h
 exact sgo 17 [.cell 2 186] Tryz.func177
instance : bD 177 (type_of% @aSm) := ⟨@aSm⟩
theorem c93 (p0 r) (h : wU p0 = some r) : Sc 93 [aL M.bY.en p0] [rW 186 4 M.bY.en r] := by
 have i1 := inv fun m s => ∃ v4 : Int, ∃ r7 : List M.bY, (s.t 0 = vL M.bY.en p0 ∧ s.t 3 = vR 100007 1 ∧ s.t 4 = vI v4 ∧ s.h 100007 = (1, oW 186 4 M.bY.en r7)) ∧ kX p0 m v4 r7 = some r
 have e1 := @kX.eq_2
 unfold wU at h
 exact sgo 23 [.tmp 2] Tryz.func93
instance : bD 93 (type_of% @c93) := ⟨@c93⟩
theorem c32 (p0 r) (h : nC p0 = some r) : Sc 32 [aX (M.aQ.en p0)] [(true, M.aQ.rs r)] := by
 unfold nC at h
 exact sgo 9 [.cell 2 43] Tryz.func32
instance : bD 32 (type_of% @c32) := ⟨@c32⟩
theorem aQH (p0 r) (h : aAL p0 = some r) : Sc 178 [aX (M.fA.en p0)] [(true, M.fA.rs r)] := by
 unfold aAL at h
 exact sgo 14 [.cell 2 183] Tryz.func178
instance : bD 178 (type_of% @aQH) := ⟨@aQH⟩
theorem c94 (p0 r) (h : wV p0 = some r) : Sc 94 [aL M.fA.en p0] [rW 183 3 M.fA.en r] := by
 have i1 := inv fun m s => ∃ v4 : Int, ∃ r7 : List M.fA, (s.t 0 = vL M.fA.en p0 ∧ s.t 3 = vR 100007 1 ∧ s.t 4 = vI v4 ∧ s.h 100007 = (1, oW 183 3 M.fA.en r7)) ∧ lF p0 m v4 r7 = some r
 have e1 := @lF.eq_2
 unfold wV at h
 exact sgo 23 [.tmp 2] Tryz.func94
instance : bD 94 (type_of% @c94) := ⟨@c94⟩
theorem c33 (p0 r) (h : rZ p0 = some r) : Sc 33 [aX (M.Channel.en p0)] [(true, M.Channel.rs r)] := by
 unfold rZ at h
 exact sgo 9 [.cell 2 46] Tryz.func33
instance : bD 33 (type_of% @c33) := ⟨@c33⟩
theorem aRv (p0 r) (h : sY p0 = some r) : Sc 179 [aL enS p0] [rW 9 1 enS r] := by
 have i1 := inv fun m s => ∃ v4 : Int, ∃ r7 : List ByteArray, (s.t 0 = vL enS p0 ∧ s.t 3 = vR 100007 1 ∧ s.t 4 = vI v4 ∧ s.h 100007 = (1, oW 9 1 enS r7)) ∧ iZ p0 m v4 r7 = some r
 have e1 := @iZ.eq_2
 unfold sY at h
 exact sgo 22 [.tmp 2] Tryz.func179
instance : bD 179 (type_of% @aRv) := ⟨@aRv⟩
theorem c95 (p0 r) (h : zC p0 = some r) : Sc 95 [aX (M.Site.en p0)] [(true, M.Site.rs r)] := by
 unfold zC at h
 exact sgo 18 [.cell 2 75] Tryz.func95
instance : bD 95 (type_of% @c95) := ⟨@c95⟩
theorem c34 (p0 r) (h : xJ p0 = some r) : Sc 34 [aL M.Site.en p0] [rW 75 4 M.Site.en r] := by
 have i1 := inv fun m s => ∃ v4 : Int, ∃ r7 : List M.Site, (s.t 0 = vL M.Site.en p0 ∧ s.t 3 = vR 100007 1 ∧ s.t 4 = vI v4 ∧ s.h 100007 = (1, oW 75 4 M.Site.en r7)) ∧ lA p0 m v4 r7 = some r
 have e1 := @lA.eq_2
 unfold xJ at h
 exact sgo 23 [.tmp 2] Tryz.func34
instance : bD 34 (type_of% @c34) := ⟨@c34⟩
theorem aRl (p0 r) (h : sD p0 = some r) : Sc 248 [aX (M.aG.en p0)] [(true, M.aG.rs r)] := by
 unfold sD at h
 exact sgo 11 [.cell 2 248] Tryz.func248
instance : bD 248 (type_of% @aRl) := ⟨@aRl⟩
theorem aQb (p0 r) (h : pX p0 = some r) : Sc 181 [aL M.aG.en p0] [rW 248 2 M.aG.en r] := by
 have i1 := inv fun m s => ∃ v4 : Int, ∃ r7 : List M.aG, (s.t 0 = vL M.aG.en p0 ∧ s.t 3 = vR 100007 1 ∧ s.t 4 = vI v4 ∧ s.h 100007 = (1, oW 248 2 M.aG.en r7)) ∧ iG p0 m v4 r7 = some r
 have e1 := @iG.eq_2
 unfold pX at h
 exact sgo 23 [.tmp 2] Tryz.func181
instance : bD 181 (type_of% @aQb) := ⟨@aQb⟩
theorem c96 (p0 r) (h : vD p0 = some r) : Sc 96 [aX (M.Server.en p0)] [(true, M.Server.rs r)] := by
 unfold vD at h
 exact sgo 17 [.cell 2 145] Tryz.func96
instance : bD 96 (type_of% @c96) := ⟨@c96⟩
theorem c35 (p0 r) (h : rX p0 = some r) : Sc 35 [aL M.Server.en p0] [rW 145 5 M.Server.en r] := by
 have i1 := inv fun m s => ∃ v4 : Int, ∃ r7 : List M.Server, (s.t 0 = vL M.Server.en p0 ∧ s.t 3 = vR 100007 1 ∧ s.t 4 = vI v4 ∧ s.h 100007 = (1, oW 145 5 M.Server.en r7)) ∧ iV p0 m v4 r7 = some r
 have e1 := @iV.eq_2
 unfold rX at h
 exact sgo 23 [.tmp 2] Tryz.func35
instance : bD 35 (type_of% @c35) := ⟨@c35⟩
theorem c9 (p0 r) (h : kT p0 = some r) : Sc 9 [aX (M.World.en p0)] [(true, M.World.rs r)] := by
 unfold kT at h
 exact sgo 41 [.cell 2 50] Tryz.func9
instance : bD 9 (type_of% @c9) := ⟨@c9⟩
end Go.Proofs.YtecmnmaaopkdfaaGreat.gen
