/-
  Helper text. No conditions.
-/
import Derived.Test.YtecmnmaaopkdfaaGreatPageSendTi
namespace Go.Proofs.YtecmnmaaopkdfaaGreat.gen
open Go Go.Sh
set_option linter.unusedVariables false
set_option linter.unusedSimpArgs false
set_option maxRecDepth 20000
set_option maxHeartbeats 4000000
theorem aQa (p0 p1 r) (h : jP p0 p1 = some r) : Sc 218 [aX (M.Registration.en p0), aI p1] [rI r] := by
 unfold jP at h
 exact sgo 13 [.tmp 4] Tryz.func218
instance : bD 218 (type_of% @aQa) := ⟨@aQa⟩
theorem aQn (p0 p1 r) (h : tR p0 p1 = some r) : Sc 289 [aL enB p0, aI p1] [rI r] := by
 unfold tR at h
 exact sgo 12 [.tmp 4] Tryz.func289
instance : bD 289 (type_of% @aQn) := ⟨@aQn⟩
theorem aSs (p0 p1 r) (h : qO p0 p1 = some r) : Sc 414 [aX (M.Response.en p0), aI p1] [rI r] := by
 unfold qO at h
 exact sgo 12 [.tmp 4] Tryz.func414
instance : bD 414 (type_of% @aSs) := ⟨@aSs⟩
theorem aQN (p0 p1 r) (h : uN p0 p1 = some r) : Sc 404 [aX (M.Cached.en p0), aI p1] [rI r] := by
 unfold uN at h
 exact sgo 26 [.tmp 4] Tryz.func404
instance : bD 404 (type_of% @aQN) := ⟨@aQN⟩
theorem aRB (p0 p1 r) (h : rM p0 p1 = some r) : Sc 384 [aL M.Cached.en p0, aI p1] [rI r] := by
 have i1 := inv fun m s => ∃ v1 : Int, ∃ v5 : Int, (s.t 0 = vL M.Cached.en p0 ∧ s.t 1 = vI v1 ∧ s.t 5 = vI v5) ∧ qZ p0 m v1 v5 = some r
 have e1 := @qZ.eq_2
 unfold rM at h
 exact sgo 27 [.tmp 4] Tryz.func384
instance : bD 384 (type_of% @aRB) := ⟨@aRB⟩
theorem aQo (p0 p1 r) (h : yG p0 p1 = some r) : Sc 346 [aX (M.Cache.en p0), aI p1] [rI r] := by
 unfold yG at h
 exact sgo 12 [.tmp 4] Tryz.func346
instance : bD 346 (type_of% @aQo) := ⟨@aQo⟩
theorem aPo (p0 p1 r) (h : uZ p0 p1 = some r) : Sc 287 [aL M.Cache.en p0, aI p1] [rI r] := by
 have i1 := inv fun m s => ∃ v1 : Int, ∃ v5 : Int, (s.t 0 = vL M.Cache.en p0 ∧ s.t 1 = vI v1 ∧ s.t 5 = vI v5) ∧ uH p0 m v1 v5 = some r
 have e1 := @uH.eq_2
 unfold uZ at h
 exact sgo 27 [.tmp 4] Tryz.func287
instance : bD 287 (type_of% @aPo) := ⟨@aPo⟩
theorem aP2 (p0 p1 r) (h : oV p0 p1 = some r) : Sc 219 [aX (M.aT.en p0), aI p1] [rI r] := by
 unfold oV at h
 exact sgo 12 [.tmp 4] Tryz.func219
instance : bD 219 (type_of% @aP2) := ⟨@aP2⟩
theorem aQF (p0 p1 r) (h : zE p0 p1 = some r) : Sc 293 [aX (M.Key.en p0), aI p1] [rI r] := by
 unfold zE at h
 exact sgo 13 [.tmp 4] Tryz.func293
instance : bD 293 (type_of% @aQF) := ⟨@aQF⟩
theorem aP7 (p0 p1 r) (h : xB p0 p1 = some r) : Sc 405 [aX (M.Field.en p0), aI p1] [rI r] := by
 unfold xB at h
 exact sgo 13 [.tmp 4] Tryz.func405
instance : bD 405 (type_of% @aP7) := ⟨@aP7⟩
theorem aQr (p0 p1 r) (h : wA p0 p1 = some r) : Sc 386 [aL M.Field.en p0, aI p1] [rI r] := by
 have i1 := inv fun m s => ∃ v1 : Int, ∃ v5 : Int, (s.t 0 = vL M.Field.en p0 ∧ s.t 1 = vI v1 ∧ s.t 5 = vI v5) ∧ uB p0 m v1 v5 = some r
 have e1 := @uB.eq_2
 unfold wA at h
 exact sgo 27 [.tmp 4] Tryz.func386
instance : bD 386 (type_of% @aQr) := ⟨@aQr⟩
theorem aRg (p0 p1 r) (h : vF p0 p1 = some r) : Sc 350 [aX (M.aU.en p0), aI p1] [rI r] := by
 unfold vF at h
 exact sgo 12 [.tmp 4] Tryz.func350
instance : bD 350 (type_of% @aRg) := ⟨@aRg⟩
theorem aTF (p0 p1 r) (h : zS p0 p1 = some r) : Sc 292 [aX (M.Item.en p0), aI p1] [rI r] := by
 unfold zS at h
 exact sgo 18 [.tmp 4] Tryz.func292
instance : bD 292 (type_of% @aTF) := ⟨@aTF⟩
theorem aQ6 (p0 p1 r) (h : yI p0 p1 = some r) : Sc 225 [aL M.Item.en p0, aI p1] [rI r] := by
 have i1 := inv fun m s => ∃ v1 : Int, ∃ v5 : Int, (s.t 0 = vL M.Item.en p0 ∧ s.t 1 = vI v1 ∧ s.t 5 = vI v5) ∧ wO p0 m v1 v5 = some r
 have e1 := @wO.eq_2
 unfold yI at h
 exact sgo 27 [.tmp 4] Tryz.func225
instance : bD 225 (type_of% @aQ6) := ⟨@aQ6⟩
theorem aSk (p0 p1 r) (h : oH p0 p1 = some r) : Sc 162 [aX (M.aG.en p0), aI p1] [rI r] := by
 unfold oH at h
 exact sgo 19 [.tmp 4] Tryz.func162
instance : bD 162 (type_of% @aSk) := ⟨@aSk⟩
theorem aQR (p0 p1 r) (h : vG p0 p1 = some r) : Sc 347 [aL M.aG.en p0, aI p1] [rI r] := by
 have i1 := inv fun m s => ∃ v1 : Int, ∃ v5 : Int, (s.t 0 = vL M.aG.en p0 ∧ s.t 1 = vI v1 ∧ s.t 5 = vI v5) ∧ tY p0 m v1 v5 = some r
 have e1 := @tY.eq_2
 unfold vG at h
 exact sgo 27 [.tmp 4] Tryz.func347
instance : bD 347 (type_of% @aQR) := ⟨@aQR⟩
theorem aSh (p0 p1 r) (h : oT p0 p1 = some r) : Sc 385 [aX (M.aA.en p0), aI p1] [rI r] := by
 unfold oT at h
 exact sgo 20 [.tmp 4] Tryz.func385
instance : bD 385 (type_of% @aSh) := ⟨@aSh⟩
theorem aQE (p0 p1 r) (h : nT p0 p1 = some r) : Sc 348 [aL M.aA.en p0, aI p1] [rI r] := by
 have i1 := inv fun m s => ∃ v1 : Int, ∃ v5 : Int, (s.t 0 = vL M.aA.en p0 ∧ s.t 1 = vI v1 ∧ s.t 5 = vI v5) ∧ nV p0 m v1 v5 = some r
 have e1 := @nV.eq_2
 unfold nT at h
 exact sgo 27 [.tmp 4] Tryz.func348
instance : bD 348 (type_of% @aQE) := ⟨@aQE⟩
theorem aRA (p0 p1 r) (h : qF p0 p1 = some r) : Sc 288 [aX (M.Database.en p0), aI p1] [rI r] := by
 unfold qF at h
 exact sgo 25 [.tmp 4] Tryz.func288
instance : bD 288 (type_of% @aRA) := ⟨@aRA⟩
theorem aRm (p0 p1 r) (h : aAL p0 p1 = some r) : Sc 220 [aX (M.bG.en p0), aI p1] [rI r] := by
 unfold aAL at h
 exact sgo 18 [.tmp 4] Tryz.func220
instance : bD 220 (type_of% @aRm) := ⟨@aRm⟩
theorem aTf (p0 p1 r) (h : yU p0 p1 = some r) : Sc 226 [aX (M.aW.en p0), aI p1] [rI r] := by
 unfold yU at h
 exact sgo 19 [.tmp 4] Tryz.func226
instance : bD 226 (type_of% @aTf) := ⟨@aTf⟩
theorem aQv (p0 p1 r) (h : pZ p0 p1 = some r) : Sc 164 [aL M.aW.en p0, aI p1] [rI r] := by
 have i1 := inv fun m s => ∃ v1 : Int, ∃ v5 : Int, (s.t 0 = vL M.aW.en p0 ∧ s.t 1 = vI v1 ∧ s.t 5 = vI v5) ∧ tZ p0 m v1 v5 = some r
 have e1 := @tZ.eq_2
 unfold pZ at h
 exact sgo 27 [.tmp 4] Tryz.func164
instance : bD 164 (type_of% @aQv) := ⟨@aQv⟩
theorem aP1 (p0 p1 r) (h : vM p0 p1 = some r) : Sc 349 [aX (M.aV.en p0), aI p1] [rI r] := by
 unfold vM at h
 exact sgo 12 [.tmp 4] Tryz.func349
instance : bD 349 (type_of% @aP1) := ⟨@aP1⟩
theorem aRW (p0 p1 r) (h : aAW p0 p1 = some r) : Sc 290 [aX (M.Sync.en p0), aI p1] [rI r] := by
 unfold aAW at h
 exact sgo 12 [.tmp 4] Tryz.func290
instance : bD 290 (type_of% @aRW) := ⟨@aRW⟩
theorem aRy (p0 p1 r) (h : tN p0 p1 = some r) : Sc 221 [aX (M.aC.en p0), aI p1] [rI r] := by
 unfold tN at h
 exact sgo 18 [.tmp 4] Tryz.func221
instance : bD 221 (type_of% @aRy) := ⟨@aRy⟩
theorem aPv (p0 p1 r) (h : wC p0 p1 = some r) : Sc 157 [aX (M.aE.en p0), aI p1] [rI r] := by
 unfold wC at h
 exact sgo 44 [.tmp 4] Tryz.func157
instance : bD 157 (type_of% @aPv) := ⟨@aPv⟩
theorem c70 (p0 p1 r) (h : tB p0 p1 = some r) : Sc 70 [aL M.aE.en p0, aI p1] [rI r] := by
 have i1 := inv fun m s => ∃ v1 : Int, ∃ v5 : Int, (s.t 0 = vL M.aE.en p0 ∧ s.t 1 = vI v1 ∧ s.t 5 = vI v5) ∧ rG p0 m v1 v5 = some r
 have e1 := @rG.eq_2
 unfold tB at h
 exact sgo 27 [.tmp 4] Tryz.func70
instance : bD 70 (type_of% @c70) := ⟨@c70⟩
theorem c20 (p0 p1 r) (h : sB p0 p1 = some r) : Sc 20 [aX (M.aK.en p0), aI p1] [rI r] := by
 unfold sB at h
 exact sgo 12 [.tmp 4] Tryz.func20
instance : bD 20 (type_of% @c20) := ⟨@c20⟩
theorem aTY (p0 p1 r) (h : vO p0 p1 = some r) : Sc 222 [aX (M.aM.en p0), aI p1] [rI r] := by
 unfold vO at h
 exact sgo 13 [.tmp 4] Tryz.func222
instance : bD 222 (type_of% @aTY) := ⟨@aTY⟩
theorem aSp (p0 p1 r) (h : rO p0 p1 = some r) : Sc 158 [aL M.aM.en p0, aI p1] [rI r] := by
 have i1 := inv fun m s => ∃ v1 : Int, ∃ v5 : Int, (s.t 0 = vL M.aM.en p0 ∧ s.t 1 = vI v1 ∧ s.t 5 = vI v5) ∧ rF p0 m v1 v5 = some r
 have e1 := @rF.eq_2
 unfold rO at h
 exact sgo 27 [.tmp 4] Tryz.func158
instance : bD 158 (type_of% @aSp) := ⟨@aSp⟩
theorem aS7 (p0 p1 r) (h : xO p0 p1 = some r) : Sc 291 [aX (M.Instr.en p0), aI p1] [rI r] := by
 unfold xO at h
 exact sgo 13 [.tmp 4] Tryz.func291
instance : bD 291 (type_of% @aS7) := ⟨@aS7⟩
theorem aRu (p0 p1 r) (h : vH p0 p1 = some r) : Sc 223 [aL M.Instr.en p0, aI p1] [rI r] := by
 have i1 := inv fun m s => ∃ v1 : Int, ∃ v5 : Int, (s.t 0 = vL M.Instr.en p0 ∧ s.t 1 = vI v1 ∧ s.t 5 = vI v5) ∧ uC p0 m v1 v5 = some r
 have e1 := @uC.eq_2
 unfold vH at h
 exact sgo 27 [.tmp 4] Tryz.func223
instance : bD 223 (type_of% @aRu) := ⟨@aRu⟩
theorem aPq (p0 p1 r) (h : aAl p0 p1 = some r) : Sc 224 [aL enI p0, aI p1] [rI r] := by
 unfold aAl at h
 exact sgo 12 [.tmp 4] Tryz.func224
instance : bD 224 (type_of% @aPq) := ⟨@aPq⟩
theorem aR9 (p0 p1 r) (h : tD p0 p1 = some r) : Sc 159 [aX (M.Machine.en p0), aI p1] [rI r] := by
 unfold tD at h
 exact sgo 18 [.tmp 4] Tryz.func159
instance : bD 159 (type_of% @aR9) := ⟨@aR9⟩
theorem c71 (p0 p1 r) (h : aAG p0 p1 = some r) : Sc 71 [aX (M.bF.en p0), aI p1] [rI r] := by
 unfold aAG at h
 exact sgo 32 [.tmp 4] Tryz.func71
instance : bD 71 (type_of% @c71) := ⟨@c71⟩
theorem c21 (p0 p1 r) (h : xF p0 p1 = some r) : Sc 21 [aL M.bF.en p0, aI p1] [rI r] := by
 have i1 := inv fun m s => ∃ v1 : Int, ∃ v5 : Int, (s.t 0 = vL M.bF.en p0 ∧ s.t 1 = vI v1 ∧ s.t 5 = vI v5) ∧ wP p0 m v1 v5 = some r
 have e1 := @wP.eq_2
 unfold xF at h
 exact sgo 27 [.tmp 4] Tryz.func21
instance : bD 21 (type_of% @c21) := ⟨@c21⟩
theorem aST (p0 p1 r) (h : aAX p0 p1 = some r) : Sc 160 [aX (M.bZ.en p0), aI p1] [rI r] := by
 unfold aAX at h
 exact sgo 13 [.tmp 4] Tryz.func160
instance : bD 160 (type_of% @aST) := ⟨@aST⟩
theorem c72 (p0 p1 r) (h : yV p0 p1 = some r) : Sc 72 [aL M.bZ.en p0, aI p1] [rI r] := by
 have i1 := inv fun m s => ∃ v1 : Int, ∃ v5 : Int, (s.t 0 = vL M.bZ.en p0 ∧ s.t 1 = vI v1 ∧ s.t 5 = vI v5) ∧ wS p0 m v1 v5 = some r
 have e1 := @wS.eq_2
 unfold yV at h
 exact sgo 27 [.tmp 4] Tryz.func72
instance : bD 72 (type_of% @c72) := ⟨@c72⟩
theorem c22 (p0 p1 r) (h : nI p0 p1 = some r) : Sc 22 [aX (M.aQ.en p0), aI p1] [rI r] := by
 unfold nI at h
 exact sgo 12 [.tmp 4] Tryz.func22
instance : bD 22 (type_of% @c22) := ⟨@c22⟩
theorem c73 (p0 p1 r) (h : yR p0 p1 = some r) : Sc 73 [aL M.cN.en p0, aI p1] [rI r] := by
 unfold yR at h
 exact sgo 12 [.tmp 4] Tryz.func73
instance : bD 73 (type_of% @c73) := ⟨@c73⟩
theorem c23 (p0 p1 r) (h : tL p0 p1 = some r) : Sc 23 [aX (M.Channel.en p0), aI p1] [rI r] := by
 unfold tL at h
 exact sgo 12 [.tmp 4] Tryz.func23
instance : bD 23 (type_of% @c23) := ⟨@c23⟩
theorem aSZ (p0 p1 r) (h : sK p0 p1 = some r) : Sc 161 [aL enS p0, aI p1] [rI r] := by
 have i1 := inv fun m s => ∃ v1 : Int, ∃ v5 : Int, (s.t 0 = vL enS p0 ∧ s.t 1 = vI v1 ∧ s.t 5 = vI v5) ∧ qW p0 m v1 v5 = some r
 have e1 := @qW.eq_2
 unfold sK at h
 exact sgo 28 [.tmp 4] Tryz.func161
instance : bD 161 (type_of% @aSZ) := ⟨@aSZ⟩
theorem c74 (p0 p1 r) (h : aAK p0 p1 = some r) : Sc 74 [aX (M.Site.en p0), aI p1] [rI r] := by
 unfold aAK at h
 exact sgo 19 [.tmp 4] Tryz.func74
instance : bD 74 (type_of% @c74) := ⟨@c74⟩
theorem c24 (p0 p1 r) (h : xT p0 p1 = some r) : Sc 24 [aL M.Site.en p0, aI p1] [rI r] := by
 have i1 := inv fun m s => ∃ v1 : Int, ∃ v5 : Int, (s.t 0 = vL M.Site.en p0 ∧ s.t 1 = vI v1 ∧ s.t 5 = vI v5) ∧ wV p0 m v1 v5 = some r
 have e1 := @wV.eq_2
 unfold xT at h
 exact sgo 27 [.tmp 4] Tryz.func24
instance : bD 24 (type_of% @c24) := ⟨@c24⟩
theorem aTa (p0 p1 r) (h : pQ p0 p1 = some r) : Sc 163 [aL M.aH.en p0, aI p1] [rI r] := by
 unfold pQ at h
 exact sgo 12 [.tmp 4] Tryz.func163
instance : bD 163 (type_of% @aTa) := ⟨@aTa⟩
theorem c75 (p0 p1 r) (h : uI p0 p1 = some r) : Sc 75 [aX (M.Server.en p0), aI p1] [rI r] := by
 unfold uI at h
 exact sgo 24 [.tmp 4] Tryz.func75
instance : bD 75 (type_of% @c75) := ⟨@c75⟩
theorem c25 (p0 p1 r) (h : tC p0 p1 = some r) : Sc 25 [aL M.Server.en p0, aI p1] [rI r] := by
 have i1 := inv fun m s => ∃ v1 : Int, ∃ v5 : Int, (s.t 0 = vL M.Server.en p0 ∧ s.t 1 = vI v1 ∧ s.t 5 = vI v5) ∧ qX p0 m v1 v5 = some r
 have e1 := @qX.eq_2
 unfold tC at h
 exact sgo 27 [.tmp 4] Tryz.func25
instance : bD 25 (type_of% @c25) := ⟨@c25⟩
theorem c7 (p0 p1 r) (h : xU p0 p1 = some r) : Sc 7 [aX (M.World.en p0), aI p1] [rI r] := by
 unfold xU at h
 exact sgo 42 [.tmp 4] Tryz.func7
instance : bD 7 (type_of% @c7) := ⟨@c7⟩
end Go.Proofs.YtecmnmaaopkdfaaGreat.gen
