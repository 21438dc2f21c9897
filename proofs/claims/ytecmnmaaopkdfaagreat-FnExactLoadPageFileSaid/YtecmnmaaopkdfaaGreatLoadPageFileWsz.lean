/-
  Helper text. No conditions.
-/
import Derived.Test.YtecmnmaaopkdfaaGreatLoadPageFileTi
namespace Go.Proofs.YtecmnmaaopkdfaaGreat.gen
open Go Go.Sh
set_option linter.unusedVariables false
set_option linter.unusedSimpArgs false
set_option maxRecDepth 20000
set_option maxHeartbeats 4000000
theorem aUg (p0 p1 r) (h : kH p0 p1 = some r) : Sc 218 [aX (M.Registration.en p0), aI p1] [rI r] := by
 unfold kH at h
 exact sgo 13 [.tmp 4] Tryz.func218
instance : bC 218 (type_of% @aUg) := ⟨@aUg⟩
theorem aUV (p0 p1 r) (h : vH p0 p1 = some r) : Sc 289 [aL enB p0, aI p1] [rI r] := by
 unfold vH at h
 exact sgo 12 [.tmp 4] Tryz.func289
instance : bC 289 (type_of% @aUV) := ⟨@aUV⟩
theorem aRy (p0 p1 r) (h : qA p0 p1 = some r) : Sc 414 [aX (M.Response.en p0), aI p1] [rI r] := by
 unfold qA at h
 exact sgo 12 [.tmp 4] Tryz.func414
instance : bC 414 (type_of% @aRy) := ⟨@aRy⟩
theorem aTW (p0 p1 r) (h : wB p0 p1 = some r) : Sc 404 [aX (M.Cached.en p0), aI p1] [rI r] := by
 unfold wB at h
 exact sgo 26 [.tmp 4] Tryz.func404
instance : bC 404 (type_of% @aTW) := ⟨@aTW⟩
theorem aQ9 (p0 p1 r) (h : uP p0 p1 = some r) : Sc 384 [aL M.Cached.en p0, aI p1] [rI r] := by
 have i1 := inv fun m s => ∃ v1 : Int, ∃ v5 : Int, (s.t 0 = vL M.Cached.en p0 ∧ s.t 1 = vI v1 ∧ s.t 5 = vI v5) ∧ sM p0 m v1 v5 = some r
 have e1 := @sM.eq_2
 unfold uP at h
 exact sgo 27 [.tmp 4] Tryz.func384
instance : bC 384 (type_of% @aQ9) := ⟨@aQ9⟩
theorem aVG (p0 p1 r) (h : zZ p0 p1 = some r) : Sc 346 [aX (M.Cache.en p0), aI p1] [rI r] := by
 unfold zZ at h
 exact sgo 12 [.tmp 4] Tryz.func346
instance : bC 346 (type_of% @aVG) := ⟨@aVG⟩
theorem aS6 (p0 p1 r) (h : xB p0 p1 = some r) : Sc 287 [aL M.Cache.en p0, aI p1] [rI r] := by
 have i1 := inv fun m s => ∃ v1 : Int, ∃ v5 : Int, (s.t 0 = vL M.Cache.en p0 ∧ s.t 1 = vI v1 ∧ s.t 5 = vI v5) ∧ vN p0 m v1 v5 = some r
 have e1 := @vN.eq_2
 unfold xB at h
 exact sgo 27 [.tmp 4] Tryz.func287
instance : bC 287 (type_of% @aS6) := ⟨@aS6⟩
theorem aUY (p0 p1 r) (h : rX p0 p1 = some r) : Sc 219 [aX (M.aP.en p0), aI p1] [rI r] := by
 unfold rX at h
 exact sgo 12 [.tmp 4] Tryz.func219
instance : bC 219 (type_of% @aUY) := ⟨@aUY⟩
theorem aTx (p0 p1 r) (h : aAP p0 p1 = some r) : Sc 293 [aX (M.Key.en p0), aI p1] [rI r] := by
 unfold aAP at h
 exact sgo 13 [.tmp 4] Tryz.func293
instance : bC 293 (type_of% @aTx) := ⟨@aTx⟩
theorem aUF (p0 p1 r) (h : zN p0 p1 = some r) : Sc 405 [aX (M.Field.en p0), aI p1] [rI r] := by
 unfold zN at h
 exact sgo 13 [.tmp 4] Tryz.func405
instance : bC 405 (type_of% @aUF) := ⟨@aUF⟩
theorem aSN (p0 p1 r) (h : wI p0 p1 = some r) : Sc 386 [aL M.Field.en p0, aI p1] [rI r] := by
 have i1 := inv fun m s => ∃ v1 : Int, ∃ v5 : Int, (s.t 0 = vL M.Field.en p0 ∧ s.t 1 = vI v1 ∧ s.t 5 = vI v5) ∧ vX p0 m v1 v5 = some r
 have e1 := @vX.eq_2
 unfold wI at h
 exact sgo 27 [.tmp 4] Tryz.func386
instance : bC 386 (type_of% @aSN) := ⟨@aSN⟩
theorem aTw (p0 p1 r) (h : xJ p0 p1 = some r) : Sc 350 [aX (M.aU.en p0), aI p1] [rI r] := by
 unfold xJ at h
 exact sgo 12 [.tmp 4] Tryz.func350
instance : bC 350 (type_of% @aTw) := ⟨@aTw⟩
theorem aTb (p0 p1 r) (h : aAy p0 p1 = some r) : Sc 292 [aX (M.Item.en p0), aI p1] [rI r] := by
 unfold aAy at h
 exact sgo 18 [.tmp 4] Tryz.func292
instance : bC 292 (type_of% @aTb) := ⟨@aTb⟩
theorem aRk (p0 p1 r) (h : yS p0 p1 = some r) : Sc 225 [aL M.Item.en p0, aI p1] [rI r] := by
 have i1 := inv fun m s => ∃ v1 : Int, ∃ v5 : Int, (s.t 0 = vL M.Item.en p0 ∧ s.t 1 = vI v1 ∧ s.t 5 = vI v5) ∧ yB p0 m v1 v5 = some r
 have e1 := @yB.eq_2
 unfold yS at h
 exact sgo 27 [.tmp 4] Tryz.func225
instance : bC 225 (type_of% @aRk) := ⟨@aRk⟩
theorem aSE (p0 p1 r) (h : pJ p0 p1 = some r) : Sc 162 [aX (M.aG.en p0), aI p1] [rI r] := by
 unfold pJ at h
 exact sgo 19 [.tmp 4] Tryz.func162
instance : bC 162 (type_of% @aSE) := ⟨@aSE⟩
theorem aSu (p0 p1 r) (h : xO p0 p1 = some r) : Sc 347 [aL M.aG.en p0, aI p1] [rI r] := by
 have i1 := inv fun m s => ∃ v1 : Int, ∃ v5 : Int, (s.t 0 = vL M.aG.en p0 ∧ s.t 1 = vI v1 ∧ s.t 5 = vI v5) ∧ vY p0 m v1 v5 = some r
 have e1 := @vY.eq_2
 unfold xO at h
 exact sgo 27 [.tmp 4] Tryz.func347
instance : bC 347 (type_of% @aSu) := ⟨@aSu⟩
theorem aSj (p0 p1 r) (h : rO p0 p1 = some r) : Sc 385 [aX (M.aA.en p0), aI p1] [rI r] := by
 unfold rO at h
 exact sgo 20 [.tmp 4] Tryz.func385
instance : bC 385 (type_of% @aSj) := ⟨@aSj⟩
theorem aSw (p0 p1 r) (h : nV p0 p1 = some r) : Sc 348 [aL M.aA.en p0, aI p1] [rI r] := by
 have i1 := inv fun m s => ∃ v1 : Int, ∃ v5 : Int, (s.t 0 = vL M.aA.en p0 ∧ s.t 1 = vI v1 ∧ s.t 5 = vI v5) ∧ pB p0 m v1 v5 = some r
 have e1 := @pB.eq_2
 unfold nV at h
 exact sgo 27 [.tmp 4] Tryz.func348
instance : bC 348 (type_of% @aSw) := ⟨@aSw⟩
theorem aRg (p0 p1 r) (h : pZ p0 p1 = some r) : Sc 288 [aX (M.Database.en p0), aI p1] [rI r] := by
 unfold pZ at h
 exact sgo 25 [.tmp 4] Tryz.func288
instance : bC 288 (type_of% @aRg) := ⟨@aRg⟩
theorem aUW (p0 p1 r) (h : aAo p0 p1 = some r) : Sc 220 [aX (M.bF.en p0), aI p1] [rI r] := by
 unfold aAo at h
 exact sgo 18 [.tmp 4] Tryz.func220
instance : bC 220 (type_of% @aUW) := ⟨@aUW⟩
theorem aUa (p0 p1 r) (h : aAH p0 p1 = some r) : Sc 226 [aX (M.aW.en p0), aI p1] [rI r] := by
 unfold aAH at h
 exact sgo 19 [.tmp 4] Tryz.func226
instance : bC 226 (type_of% @aUa) := ⟨@aUa⟩
theorem aUi (p0 p1 r) (h : sD p0 p1 = some r) : Sc 164 [aL M.aW.en p0, aI p1] [rI r] := by
 have i1 := inv fun m s => ∃ v1 : Int, ∃ v5 : Int, (s.t 0 = vL M.aW.en p0 ∧ s.t 1 = vI v1 ∧ s.t 5 = vI v5) ∧ vT p0 m v1 v5 = some r
 have e1 := @vT.eq_2
 unfold sD at h
 exact sgo 27 [.tmp 4] Tryz.func164
instance : bC 164 (type_of% @aUi) := ⟨@aUi⟩
theorem aS5 (p0 p1 r) (h : xA p0 p1 = some r) : Sc 349 [aX (M.aV.en p0), aI p1] [rI r] := by
 unfold xA at h
 exact sgo 12 [.tmp 4] Tryz.func349
instance : bC 349 (type_of% @aS5) := ⟨@aS5⟩
theorem aSv (p0 p1 r) (h : aAm p0 p1 = some r) : Sc 290 [aX (M.Sync.en p0), aI p1] [rI r] := by
 unfold aAm at h
 exact sgo 12 [.tmp 4] Tryz.func290
instance : bC 290 (type_of% @aSv) := ⟨@aSv⟩
theorem aTg (p0 p1 r) (h : uO p0 p1 = some r) : Sc 221 [aX (M.aC.en p0), aI p1] [rI r] := by
 unfold uO at h
 exact sgo 18 [.tmp 4] Tryz.func221
instance : bC 221 (type_of% @aTg) := ⟨@aTg⟩
theorem aUH (p0 p1 r) (h : xN p0 p1 = some r) : Sc 157 [aX (M.aE.en p0), aI p1] [rI r] := by
 unfold xN at h
 exact sgo 44 [.tmp 4] Tryz.func157
instance : bC 157 (type_of% @aUH) := ⟨@aUH⟩
theorem c70 (p0 p1 r) (h : uU p0 p1 = some r) : Sc 70 [aL M.aE.en p0, aI p1] [rI r] := by
 have i1 := inv fun m s => ∃ v1 : Int, ∃ v5 : Int, (s.t 0 = vL M.aE.en p0 ∧ s.t 1 = vI v1 ∧ s.t 5 = vI v5) ∧ sR p0 m v1 v5 = some r
 have e1 := @sR.eq_2
 unfold uU at h
 exact sgo 27 [.tmp 4] Tryz.func70
instance : bC 70 (type_of% @c70) := ⟨@c70⟩
theorem c20 (p0 p1 r) (h : tU p0 p1 = some r) : Sc 20 [aX (M.aK.en p0), aI p1] [rI r] := by
 unfold tU at h
 exact sgo 12 [.tmp 4] Tryz.func20
instance : bC 20 (type_of% @c20) := ⟨@c20⟩
theorem aU4 (p0 p1 r) (h : xD p0 p1 = some r) : Sc 222 [aX (M.aJ.en p0), aI p1] [rI r] := by
 unfold xD at h
 exact sgo 13 [.tmp 4] Tryz.func222
instance : bC 222 (type_of% @aU4) := ⟨@aU4⟩
theorem aRf (p0 p1 r) (h : uJ p0 p1 = some r) : Sc 158 [aL M.aJ.en p0, aI p1] [rI r] := by
 have i1 := inv fun m s => ∃ v1 : Int, ∃ v5 : Int, (s.t 0 = vL M.aJ.en p0 ∧ s.t 1 = vI v1 ∧ s.t 5 = vI v5) ∧ sJ p0 m v1 v5 = some r
 have e1 := @sJ.eq_2
 unfold uJ at h
 exact sgo 27 [.tmp 4] Tryz.func158
instance : bC 158 (type_of% @aRf) := ⟨@aRf⟩
theorem aSs (p0 p1 r) (h : zM p0 p1 = some r) : Sc 291 [aX (M.Instr.en p0), aI p1] [rI r] := by
 unfold zM at h
 exact sgo 13 [.tmp 4] Tryz.func291
instance : bC 291 (type_of% @aSs) := ⟨@aSs⟩
theorem aU0 (p0 p1 r) (h : wT p0 p1 = some r) : Sc 223 [aL M.Instr.en p0, aI p1] [rI r] := by
 have i1 := inv fun m s => ∃ v1 : Int, ∃ v5 : Int, (s.t 0 = vL M.Instr.en p0 ∧ s.t 1 = vI v1 ∧ s.t 5 = vI v5) ∧ vQ p0 m v1 v5 = some r
 have e1 := @vQ.eq_2
 unfold wT at h
 exact sgo 27 [.tmp 4] Tryz.func223
instance : bC 223 (type_of% @aU0) := ⟨@aU0⟩
theorem aVP (p0 p1 r) (h : aAd p0 p1 = some r) : Sc 224 [aL enI p0, aI p1] [rI r] := by
 unfold aAd at h
 exact sgo 12 [.tmp 4] Tryz.func224
instance : bC 224 (type_of% @aVP) := ⟨@aVP⟩
theorem aS1 (p0 p1 r) (h : tS p0 p1 = some r) : Sc 159 [aX (M.Machine.en p0), aI p1] [rI r] := by
 unfold tS at h
 exact sgo 18 [.tmp 4] Tryz.func159
instance : bC 159 (type_of% @aS1) := ⟨@aS1⟩
theorem c71 (p0 p1 r) (h : aA5 p0 p1 = some r) : Sc 71 [aX (M.bG.en p0), aI p1] [rI r] := by
 unfold aA5 at h
 exact sgo 32 [.tmp 4] Tryz.func71
instance : bC 71 (type_of% @c71) := ⟨@c71⟩
theorem c21 (p0 p1 r) (h : zH p0 p1 = some r) : Sc 21 [aL M.bG.en p0, aI p1] [rI r] := by
 have i1 := inv fun m s => ∃ v1 : Int, ∃ v5 : Int, (s.t 0 = vL M.bG.en p0 ∧ s.t 1 = vI v1 ∧ s.t 5 = vI v5) ∧ yC p0 m v1 v5 = some r
 have e1 := @yC.eq_2
 unfold zH at h
 exact sgo 27 [.tmp 4] Tryz.func21
instance : bC 21 (type_of% @c21) := ⟨@c21⟩
theorem aVC (p0 p1 r) (h : aBI p0 p1 = some r) : Sc 160 [aX (M.cF.en p0), aI p1] [rI r] := by
 unfold aBI at h
 exact sgo 13 [.tmp 4] Tryz.func160
instance : bC 160 (type_of% @aVC) := ⟨@aVC⟩
theorem c72 (p0 p1 r) (h : yL p0 p1 = some r) : Sc 72 [aL M.cF.en p0, aI p1] [rI r] := by
 have i1 := inv fun m s => ∃ v1 : Int, ∃ v5 : Int, (s.t 0 = vL M.cF.en p0 ∧ s.t 1 = vI v1 ∧ s.t 5 = vI v5) ∧ xU p0 m v1 v5 = some r
 have e1 := @xU.eq_2
 unfold yL at h
 exact sgo 27 [.tmp 4] Tryz.func72
instance : bC 72 (type_of% @c72) := ⟨@c72⟩
theorem c22 (p0 p1 r) (h : oV p0 p1 = some r) : Sc 22 [aX (M.aR.en p0), aI p1] [rI r] := by
 unfold oV at h
 exact sgo 12 [.tmp 4] Tryz.func22
instance : bC 22 (type_of% @c22) := ⟨@c22⟩
theorem c73 (p0 p1 r) (h : aAG p0 p1 = some r) : Sc 73 [aL M.fH.en p0, aI p1] [rI r] := by
 unfold aAG at h
 exact sgo 12 [.tmp 4] Tryz.func73
instance : bC 73 (type_of% @c73) := ⟨@c73⟩
theorem c23 (p0 p1 r) (h : uF p0 p1 = some r) : Sc 23 [aX (M.Channel.en p0), aI p1] [rI r] := by
 unfold uF at h
 exact sgo 12 [.tmp 4] Tryz.func23
instance : bC 23 (type_of% @c23) := ⟨@c23⟩
theorem aT7 (p0 p1 r) (h : tZ p0 p1 = some r) : Sc 161 [aL enS p0, aI p1] [rI r] := by
 have i1 := inv fun m s => ∃ v1 : Int, ∃ v5 : Int, (s.t 0 = vL enS p0 ∧ s.t 1 = vI v1 ∧ s.t 5 = vI v5) ∧ sH p0 m v1 v5 = some r
 have e1 := @sH.eq_2
 unfold tZ at h
 exact sgo 28 [.tmp 4] Tryz.func161
instance : bC 161 (type_of% @aT7) := ⟨@aT7⟩
theorem c74 (p0 p1 r) (h : aA3 p0 p1 = some r) : Sc 74 [aX (M.Site.en p0), aI p1] [rI r] := by
 unfold aA3 at h
 exact sgo 19 [.tmp 4] Tryz.func74
instance : bC 74 (type_of% @c74) := ⟨@c74⟩
theorem c24 (p0 p1 r) (h : yY p0 p1 = some r) : Sc 24 [aL M.Site.en p0, aI p1] [rI r] := by
 have i1 := inv fun m s => ∃ v1 : Int, ∃ v5 : Int, (s.t 0 = vL M.Site.en p0 ∧ s.t 1 = vI v1 ∧ s.t 5 = vI v5) ∧ yD p0 m v1 v5 = some r
 have e1 := @yD.eq_2
 unfold yY at h
 exact sgo 27 [.tmp 4] Tryz.func24
instance : bC 24 (type_of% @c24) := ⟨@c24⟩
theorem aUA (p0 p1 r) (h : qJ p0 p1 = some r) : Sc 163 [aL M.aH.en p0, aI p1] [rI r] := by
 unfold qJ at h
 exact sgo 12 [.tmp 4] Tryz.func163
instance : bC 163 (type_of% @aUA) := ⟨@aUA⟩
theorem c75 (p0 p1 r) (h : wS p0 p1 = some r) : Sc 75 [aX (M.Server.en p0), aI p1] [rI r] := by
 unfold wS at h
 exact sgo 24 [.tmp 4] Tryz.func75
instance : bC 75 (type_of% @c75) := ⟨@c75⟩
theorem c25 (p0 p1 r) (h : uE p0 p1 = some r) : Sc 25 [aL M.Server.en p0, aI p1] [rI r] := by
 have i1 := inv fun m s => ∃ v1 : Int, ∃ v5 : Int, (s.t 0 = vL M.Server.en p0 ∧ s.t 1 = vI v1 ∧ s.t 5 = vI v5) ∧ sN p0 m v1 v5 = some r
 have e1 := @sN.eq_2
 unfold uE at h
 exact sgo 27 [.tmp 4] Tryz.func25
instance : bC 25 (type_of% @c25) := ⟨@c25⟩
theorem c7 (p0 p1 r) (h : zS p0 p1 = some r) : Sc 7 [aX (M.World.en p0), aI p1] [rI r] := by
 unfold zS at h
 exact sgo 42 [.tmp 4] Tryz.func7
instance : bC 7 (type_of% @c7) := ⟨@c7⟩
end Go.Proofs.YtecmnmaaopkdfaaGreat.gen
