/-
  Helper text. No conditions.
-/
import Derived.Test.YtecmnmaaopkdfaaGreatReleaseSiteTi
namespace Go.Proofs.YtecmnmaaopkdfaaGreat.gen
open Go Go.Sh
set_option linter.unusedVariables false
set_option linter.unusedSimpArgs false
set_option maxRecDepth 20000
set_option maxHeartbeats 4000000
theorem aQx (p0 p1 r) (h : jG p0 p1 = some r) : Sc 218 [aX (M.Registration.en p0), aI p1] [rI r] := by
 unfold jG at h
 exact sgo 13 [.tmp 4] Tryz.func218
instance : bD 218 (type_of% @aQx) := ⟨@aQx⟩
theorem aRM (p0 p1 r) (h : tL p0 p1 = some r) : Sc 289 [aL enB p0, aI p1] [rI r] := by
 unfold tL at h
 exact sgo 12 [.tmp 4] Tryz.func289
instance : bD 289 (type_of% @aRM) := ⟨@aRM⟩
theorem aRu (p0 p1 r) (h : pR p0 p1 = some r) : Sc 414 [aX (M.Response.en p0), aI p1] [rI r] := by
 unfold pR at h
 exact sgo 12 [.tmp 4] Tryz.func414
instance : bD 414 (type_of% @aRu) := ⟨@aRu⟩
theorem aQN (p0 p1 r) (h : vO p0 p1 = some r) : Sc 404 [aX (M.Cached.en p0), aI p1] [rI r] := by
 unfold vO at h
 exact sgo 26 [.tmp 4] Tryz.func404
instance : bD 404 (type_of% @aQN) := ⟨@aQN⟩
theorem aQR (p0 p1 r) (h : sQ p0 p1 = some r) : Sc 384 [aL M.Cached.en p0, aI p1] [rI r] := by
 have i1 := inv fun m s => ∃ v1 : Int, ∃ v5 : Int, (s.t 0 = vL M.Cached.en p0 ∧ s.t 1 = vI v1 ∧ s.t 5 = vI v5) ∧ rC p0 m v1 v5 = some r
 have e1 := @rC.eq_2
 unfold sQ at h
 exact sgo 27 [.tmp 4] Tryz.func384
instance : bD 384 (type_of% @aQR) := ⟨@aQR⟩
theorem aSO (p0 p1 r) (h : xC p0 p1 = some r) : Sc 346 [aX (M.Cache.en p0), aI p1] [rI r] := by
 unfold xC at h
 exact sgo 12 [.tmp 4] Tryz.func346
instance : bD 346 (type_of% @aSO) := ⟨@aSO⟩
theorem aQd (p0 p1 r) (h : vH p0 p1 = some r) : Sc 287 [aL M.Cache.en p0, aI p1] [rI r] := by
 have i1 := inv fun m s => ∃ v1 : Int, ∃ v5 : Int, (s.t 0 = vL M.Cache.en p0 ∧ s.t 1 = vI v1 ∧ s.t 5 = vI v5) ∧ tV p0 m v1 v5 = some r
 have e1 := @tV.eq_2
 unfold vH at h
 exact sgo 27 [.tmp 4] Tryz.func287
instance : bD 287 (type_of% @aQd) := ⟨@aQd⟩
theorem aPe (p0 p1 r) (h : oR p0 p1 = some r) : Sc 219 [aX (M.aT.en p0), aI p1] [rI r] := by
 unfold oR at h
 exact sgo 12 [.tmp 4] Tryz.func219
instance : bD 219 (type_of% @aPe) := ⟨@aPe⟩
theorem aTB (p0 p1 r) (h : yO p0 p1 = some r) : Sc 293 [aX (M.Key.en p0), aI p1] [rI r] := by
 unfold yO at h
 exact sgo 13 [.tmp 4] Tryz.func293
instance : bD 293 (type_of% @aTB) := ⟨@aTB⟩
theorem aS4 (p0 p1 r) (h : yB p0 p1 = some r) : Sc 405 [aX (M.Field.en p0), aI p1] [rI r] := by
 unfold yB at h
 exact sgo 13 [.tmp 4] Tryz.func405
instance : bD 405 (type_of% @aS4) := ⟨@aS4⟩
theorem aRH (p0 p1 r) (h : vT p0 p1 = some r) : Sc 386 [aL M.Field.en p0, aI p1] [rI r] := by
 have i1 := inv fun m s => ∃ v1 : Int, ∃ v5 : Int, (s.t 0 = vL M.Field.en p0 ∧ s.t 1 = vI v1 ∧ s.t 5 = vI v5) ∧ tU p0 m v1 v5 = some r
 have e1 := @tU.eq_2
 unfold vT at h
 exact sgo 27 [.tmp 4] Tryz.func386
instance : bD 386 (type_of% @aRH) := ⟨@aRH⟩
theorem aQO (p0 p1 r) (h : vE p0 p1 = some r) : Sc 350 [aX (M.aU.en p0), aI p1] [rI r] := by
 unfold vE at h
 exact sgo 12 [.tmp 4] Tryz.func350
instance : bD 350 (type_of% @aQO) := ⟨@aQO⟩
theorem aQe (p0 p1 r) (h : aAN p0 p1 = some r) : Sc 292 [aX (M.Item.en p0), aI p1] [rI r] := by
 unfold aAN at h
 exact sgo 18 [.tmp 4] Tryz.func292
instance : bD 292 (type_of% @aQe) := ⟨@aQe⟩
theorem aQp (p0 p1 r) (h : xZ p0 p1 = some r) : Sc 225 [aL M.Item.en p0, aI p1] [rI r] := by
 have i1 := inv fun m s => ∃ v1 : Int, ∃ v5 : Int, (s.t 0 = vL M.Item.en p0 ∧ s.t 1 = vI v1 ∧ s.t 5 = vI v5) ∧ wH p0 m v1 v5 = some r
 have e1 := @wH.eq_2
 unfold xZ at h
 exact sgo 27 [.tmp 4] Tryz.func225
instance : bD 225 (type_of% @aQp) := ⟨@aQp⟩
theorem aPk (p0 p1 r) (h : oE p0 p1 = some r) : Sc 162 [aX (M.aH.en p0), aI p1] [rI r] := by
 unfold oE at h
 exact sgo 19 [.tmp 4] Tryz.func162
instance : bD 162 (type_of% @aPk) := ⟨@aPk⟩
theorem aR5 (p0 p1 r) (h : vA p0 p1 = some r) : Sc 347 [aL M.aH.en p0, aI p1] [rI r] := by
 have i1 := inv fun m s => ∃ v1 : Int, ∃ v5 : Int, (s.t 0 = vL M.aH.en p0 ∧ s.t 1 = vI v1 ∧ s.t 5 = vI v5) ∧ tY p0 m v1 v5 = some r
 have e1 := @tY.eq_2
 unfold vA at h
 exact sgo 27 [.tmp 4] Tryz.func347
instance : bD 347 (type_of% @aR5) := ⟨@aR5⟩
theorem aQm (p0 p1 r) (h : qF p0 p1 = some r) : Sc 385 [aX (M.aA.en p0), aI p1] [rI r] := by
 unfold qF at h
 exact sgo 20 [.tmp 4] Tryz.func385
instance : bD 385 (type_of% @aQm) := ⟨@aQm⟩
theorem aRp (p0 p1 r) (h : nM p0 p1 = some r) : Sc 348 [aL M.aA.en p0, aI p1] [rI r] := by
 have i1 := inv fun m s => ∃ v1 : Int, ∃ v5 : Int, (s.t 0 = vL M.aA.en p0 ∧ s.t 1 = vI v1 ∧ s.t 5 = vI v5) ∧ nQ p0 m v1 v5 = some r
 have e1 := @nQ.eq_2
 unfold nM at h
 exact sgo 27 [.tmp 4] Tryz.func348
instance : bD 348 (type_of% @aRp) := ⟨@aRp⟩
theorem aRG (p0 p1 r) (h : pA p0 p1 = some r) : Sc 288 [aX (M.Database.en p0), aI p1] [rI r] := by
 unfold pA at h
 exact sgo 25 [.tmp 4] Tryz.func288
instance : bD 288 (type_of% @aRG) := ⟨@aRG⟩
theorem aSb (p0 p1 r) (h : zL p0 p1 = some r) : Sc 220 [aX (M.bC.en p0), aI p1] [rI r] := by
 unfold zL at h
 exact sgo 18 [.tmp 4] Tryz.func220
instance : bD 220 (type_of% @aSb) := ⟨@aSb⟩
theorem aQ2 (p0 p1 r) (h : xQ p0 p1 = some r) : Sc 226 [aX (M.aW.en p0), aI p1] [rI r] := by
 unfold xQ at h
 exact sgo 19 [.tmp 4] Tryz.func226
instance : bD 226 (type_of% @aQ2) := ⟨@aQ2⟩
theorem aP3 (p0 p1 r) (h : oN p0 p1 = some r) : Sc 164 [aL M.aW.en p0, aI p1] [rI r] := by
 have i1 := inv fun m s => ∃ v1 : Int, ∃ v5 : Int, (s.t 0 = vL M.aW.en p0 ∧ s.t 1 = vI v1 ∧ s.t 5 = vI v5) ∧ tX p0 m v1 v5 = some r
 have e1 := @tX.eq_2
 unfold oN at h
 exact sgo 27 [.tmp 4] Tryz.func164
instance : bD 164 (type_of% @aP3) := ⟨@aP3⟩
theorem aPx (p0 p1 r) (h : uX p0 p1 = some r) : Sc 349 [aX (M.aV.en p0), aI p1] [rI r] := by
 unfold uX at h
 exact sgo 12 [.tmp 4] Tryz.func349
instance : bD 349 (type_of% @aPx) := ⟨@aPx⟩
theorem aPn (p0 p1 r) (h : aAH p0 p1 = some r) : Sc 290 [aX (M.Sync.en p0), aI p1] [rI r] := by
 unfold aAH at h
 exact sgo 12 [.tmp 4] Tryz.func290
instance : bD 290 (type_of% @aPn) := ⟨@aPn⟩
theorem aRZ (p0 p1 r) (h : tI p0 p1 = some r) : Sc 221 [aX (M.aC.en p0), aI p1] [rI r] := by
 unfold tI at h
 exact sgo 18 [.tmp 4] Tryz.func221
instance : bD 221 (type_of% @aRZ) := ⟨@aRZ⟩
theorem aQh (p0 p1 r) (h : uC p0 p1 = some r) : Sc 157 [aX (M.aE.en p0), aI p1] [rI r] := by
 unfold uC at h
 exact sgo 44 [.tmp 4] Tryz.func157
instance : bD 157 (type_of% @aQh) := ⟨@aQh⟩
theorem c70 (p0 p1 r) (h : rF p0 p1 = some r) : Sc 70 [aL M.aE.en p0, aI p1] [rI r] := by
 have i1 := inv fun m s => ∃ v1 : Int, ∃ v5 : Int, (s.t 0 = vL M.aE.en p0 ∧ s.t 1 = vI v1 ∧ s.t 5 = vI v5) ∧ qX p0 m v1 v5 = some r
 have e1 := @qX.eq_2
 unfold rF at h
 exact sgo 27 [.tmp 4] Tryz.func70
instance : bD 70 (type_of% @c70) := ⟨@c70⟩
theorem c20 (p0 p1 r) (h : rE p0 p1 = some r) : Sc 20 [aX (M.aK.en p0), aI p1] [rI r] := by
 unfold rE at h
 exact sgo 12 [.tmp 4] Tryz.func20
instance : bD 20 (type_of% @c20) := ⟨@c20⟩
theorem aQK (p0 p1 r) (h : uW p0 p1 = some r) : Sc 222 [aX (M.aM.en p0), aI p1] [rI r] := by
 unfold uW at h
 exact sgo 13 [.tmp 4] Tryz.func222
instance : bD 222 (type_of% @aQK) := ⟨@aQK⟩
theorem aPq (p0 p1 r) (h : sL p0 p1 = some r) : Sc 158 [aL M.aM.en p0, aI p1] [rI r] := by
 have i1 := inv fun m s => ∃ v1 : Int, ∃ v5 : Int, (s.t 0 = vL M.aM.en p0 ∧ s.t 1 = vI v1 ∧ s.t 5 = vI v5) ∧ qT p0 m v1 v5 = some r
 have e1 := @qT.eq_2
 unfold sL at h
 exact sgo 27 [.tmp 4] Tryz.func158
instance : bD 158 (type_of% @aPq) := ⟨@aPq⟩
theorem aPS (p0 p1 r) (h : xO p0 p1 = some r) : Sc 291 [aX (M.Instr.en p0), aI p1] [rI r] := by
 unfold xO at h
 exact sgo 13 [.tmp 4] Tryz.func291
instance : bD 291 (type_of% @aPS) := ⟨@aPS⟩
theorem aSG (p0 p1 r) (h : vM p0 p1 = some r) : Sc 223 [aL M.Instr.en p0, aI p1] [rI r] := by
 have i1 := inv fun m s => ∃ v1 : Int, ∃ v5 : Int, (s.t 0 = vL M.Instr.en p0 ∧ s.t 1 = vI v1 ∧ s.t 5 = vI v5) ∧ tW p0 m v1 v5 = some r
 have e1 := @tW.eq_2
 unfold vM at h
 exact sgo 27 [.tmp 4] Tryz.func223
instance : bD 223 (type_of% @aSG) := ⟨@aSG⟩
theorem aQr (p0 p1 r) (h : aAJ p0 p1 = some r) : Sc 224 [aL enI p0, aI p1] [rI r] := by
 unfold aAJ at h
 exact sgo 12 [.tmp 4] Tryz.func224
instance : bD 224 (type_of% @aQr) := ⟨@aQr⟩
theorem aSw (p0 p1 r) (h : sU p0 p1 = some r) : Sc 159 [aX (M.Machine.en p0), aI p1] [rI r] := by
 unfold sU at h
 exact sgo 18 [.tmp 4] Tryz.func159
instance : bD 159 (type_of% @aSw) := ⟨@aSw⟩
theorem c71 (p0 p1 r) (h : aAT p0 p1 = some r) : Sc 71 [aX (M.bJ.en p0), aI p1] [rI r] := by
 unfold aAT at h
 exact sgo 32 [.tmp 4] Tryz.func71
instance : bD 71 (type_of% @c71) := ⟨@c71⟩
theorem c21 (p0 p1 r) (h : xD p0 p1 = some r) : Sc 21 [aL M.bJ.en p0, aI p1] [rI r] := by
 have i1 := inv fun m s => ∃ v1 : Int, ∃ v5 : Int, (s.t 0 = vL M.bJ.en p0 ∧ s.t 1 = vI v1 ∧ s.t 5 = vI v5) ∧ wA p0 m v1 v5 = some r
 have e1 := @wA.eq_2
 unfold xD at h
 exact sgo 27 [.tmp 4] Tryz.func21
instance : bD 21 (type_of% @c21) := ⟨@c21⟩
theorem aRn (p0 p1 r) (h : aAS p0 p1 = some r) : Sc 160 [aX (M.bY.en p0), aI p1] [rI r] := by
 unfold aAS at h
 exact sgo 13 [.tmp 4] Tryz.func160
instance : bD 160 (type_of% @aRn) := ⟨@aRn⟩
theorem c72 (p0 p1 r) (h : xL p0 p1 = some r) : Sc 72 [aL M.bY.en p0, aI p1] [rI r] := by
 have i1 := inv fun m s => ∃ v1 : Int, ∃ v5 : Int, (s.t 0 = vL M.bY.en p0 ∧ s.t 1 = vI v1 ∧ s.t 5 = vI v5) ∧ wD p0 m v1 v5 = some r
 have e1 := @wD.eq_2
 unfold xL at h
 exact sgo 27 [.tmp 4] Tryz.func72
instance : bD 72 (type_of% @c72) := ⟨@c72⟩
theorem c22 (p0 p1 r) (h : mY p0 p1 = some r) : Sc 22 [aX (M.aQ.en p0), aI p1] [rI r] := by
 unfold mY at h
 exact sgo 12 [.tmp 4] Tryz.func22
instance : bD 22 (type_of% @c22) := ⟨@c22⟩
theorem c73 (p0 p1 r) (h : yG p0 p1 = some r) : Sc 73 [aL M.fA.en p0, aI p1] [rI r] := by
 unfold yG at h
 exact sgo 12 [.tmp 4] Tryz.func73
instance : bD 73 (type_of% @c73) := ⟨@c73⟩
theorem c23 (p0 p1 r) (h : rV p0 p1 = some r) : Sc 23 [aX (M.Channel.en p0), aI p1] [rI r] := by
 unfold rV at h
 exact sgo 12 [.tmp 4] Tryz.func23
instance : bD 23 (type_of% @c23) := ⟨@c23⟩
theorem aSF (p0 p1 r) (h : sX p0 p1 = some r) : Sc 161 [aL enS p0, aI p1] [rI r] := by
 have i1 := inv fun m s => ∃ v1 : Int, ∃ v5 : Int, (s.t 0 = vL enS p0 ∧ s.t 1 = vI v1 ∧ s.t 5 = vI v5) ∧ qW p0 m v1 v5 = some r
 have e1 := @qW.eq_2
 unfold sX at h
 exact sgo 28 [.tmp 4] Tryz.func161
instance : bD 161 (type_of% @aSF) := ⟨@aSF⟩
theorem c74 (p0 p1 r) (h : zN p0 p1 = some r) : Sc 74 [aX (M.Site.en p0), aI p1] [rI r] := by
 unfold zN at h
 exact sgo 19 [.tmp 4] Tryz.func74
instance : bD 74 (type_of% @c74) := ⟨@c74⟩
theorem c24 (p0 p1 r) (h : wZ p0 p1 = some r) : Sc 24 [aL M.Site.en p0, aI p1] [rI r] := by
 have i1 := inv fun m s => ∃ v1 : Int, ∃ v5 : Int, (s.t 0 = vL M.Site.en p0 ∧ s.t 1 = vI v1 ∧ s.t 5 = vI v5) ∧ wI p0 m v1 v5 = some r
 have e1 := @wI.eq_2
 unfold wZ at h
 exact sgo 27 [.tmp 4] Tryz.func24
instance : bD 24 (type_of% @c24) := ⟨@c24⟩
theorem aRx (p0 p1 r) (h : pN p0 p1 = some r) : Sc 163 [aL M.aG.en p0, aI p1] [rI r] := by
 unfold pN at h
 exact sgo 12 [.tmp 4] Tryz.func163
instance : bD 163 (type_of% @aRx) := ⟨@aRx⟩
theorem c75 (p0 p1 r) (h : vU p0 p1 = some r) : Sc 75 [aX (M.Server.en p0), aI p1] [rI r] := by
 unfold vU at h
 exact sgo 24 [.tmp 4] Tryz.func75
instance : bD 75 (type_of% @c75) := ⟨@c75⟩
theorem c25 (p0 p1 r) (h : tA p0 p1 = some r) : Sc 25 [aL M.Server.en p0, aI p1] [rI r] := by
 have i1 := inv fun m s => ∃ v1 : Int, ∃ v5 : Int, (s.t 0 = vL M.Server.en p0 ∧ s.t 1 = vI v1 ∧ s.t 5 = vI v5) ∧ qS p0 m v1 v5 = some r
 have e1 := @qS.eq_2
 unfold tA at h
 exact sgo 27 [.tmp 4] Tryz.func25
instance : bD 25 (type_of% @c25) := ⟨@c25⟩
theorem c7 (p0 p1 r) (h : yK p0 p1 = some r) : Sc 7 [aX (M.World.en p0), aI p1] [rI r] := by
 unfold yK at h
 exact sgo 42 [.tmp 4] Tryz.func7
instance : bD 7 (type_of% @c7) := ⟨@c7⟩
end Go.Proofs.YtecmnmaaopkdfaaGreat.gen
