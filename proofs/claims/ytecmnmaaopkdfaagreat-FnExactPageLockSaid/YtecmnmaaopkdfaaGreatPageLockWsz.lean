/-
  Helper text. No conditions.
-/
import Derived.Test.YtecmnmaaopkdfaaGreatPageLockTi
namespace Go.Proofs.YtecmnmaaopkdfaaGreat.gen
open Go Go.Sh
set_option linter.unusedVariables false
set_option linter.unusedSimpArgs false
set_option maxRecDepth 20000
set_option maxHeartbeats 4000000
theorem aQz (p0 p1 r) (h : jR p0 p1 = some r) : Sc 218 [aX (M.Registration.en p0), aI p1] [rI r] := by
 unfold jR at h
 exact sgo 13 [.tmp 4] Tryz.func218
instance : bC 218 (type_of% @aQz) := ⟨@aQz⟩
theorem aSq (p0 p1 r) (h : tV p0 p1 = some r) : Sc 289 [aL enB p0, aI p1] [rI r] := by
 unfold tV at h
 exact sgo 12 [.tmp 4] Tryz.func289
instance : bC 289 (type_of% @aSq) := ⟨@aSq⟩
theorem aRJ (p0 p1 r) (h : pX p0 p1 = some r) : Sc 414 [aX (M.Response.en p0), aI p1] [rI r] := by
 unfold pX at h
 exact sgo 12 [.tmp 4] Tryz.func414
instance : bC 414 (type_of% @aRJ) := ⟨@aRJ⟩
theorem aQg (p0 p1 r) (h : vQ p0 p1 = some r) : Sc 404 [aX (M.Cached.en p0), aI p1] [rI r] := by
 unfold vQ at h
 exact sgo 26 [.tmp 4] Tryz.func404
instance : bC 404 (type_of% @aQg) := ⟨@aQg⟩
theorem aR8 (p0 p1 r) (h : tJ p0 p1 = some r) : Sc 384 [aL M.Cached.en p0, aI p1] [rI r] := by
 have i1 := inv fun m s => ∃ v1 : Int, ∃ v5 : Int, (s.t 0 = vL M.Cached.en p0 ∧ s.t 1 = vI v1 ∧ s.t 5 = vI v5) ∧ rM p0 m v1 v5 = some r
 have e1 := @rM.eq_2
 unfold tJ at h
 exact sgo 27 [.tmp 4] Tryz.func384
instance : bC 384 (type_of% @aR8) := ⟨@aR8⟩
theorem aSl (p0 p1 r) (h : yM p0 p1 = some r) : Sc 346 [aX (M.Cache.en p0), aI p1] [rI r] := by
 unfold yM at h
 exact sgo 12 [.tmp 4] Tryz.func346
instance : bC 346 (type_of% @aSl) := ⟨@aSl⟩
theorem aPq (p0 p1 r) (h : vC p0 p1 = some r) : Sc 287 [aL M.Cache.en p0, aI p1] [rI r] := by
 have i1 := inv fun m s => ∃ v1 : Int, ∃ v5 : Int, (s.t 0 = vL M.Cache.en p0 ∧ s.t 1 = vI v1 ∧ s.t 5 = vI v5) ∧ uJ p0 m v1 v5 = some r
 have e1 := @uJ.eq_2
 unfold vC at h
 exact sgo 27 [.tmp 4] Tryz.func287
instance : bC 287 (type_of% @aPq) := ⟨@aPq⟩
theorem aRK (p0 p1 r) (h : qB p0 p1 = some r) : Sc 219 [aX (M.aT.en p0), aI p1] [rI r] := by
 unfold qB at h
 exact sgo 12 [.tmp 4] Tryz.func219
instance : bC 219 (type_of% @aRK) := ⟨@aRK⟩
theorem aQZ (p0 p1 r) (h : zK p0 p1 = some r) : Sc 293 [aX (M.Key.en p0), aI p1] [rI r] := by
 unfold zK at h
 exact sgo 13 [.tmp 4] Tryz.func293
instance : bC 293 (type_of% @aQZ) := ⟨@aQZ⟩
theorem aSL (p0 p1 r) (h : xQ p0 p1 = some r) : Sc 405 [aX (M.Field.en p0), aI p1] [rI r] := by
 unfold xQ at h
 exact sgo 13 [.tmp 4] Tryz.func405
instance : bC 405 (type_of% @aSL) := ⟨@aSL⟩
theorem aRn (p0 p1 r) (h : wA p0 p1 = some r) : Sc 386 [aL M.Field.en p0, aI p1] [rI r] := by
 have i1 := inv fun m s => ∃ v1 : Int, ∃ v5 : Int, (s.t 0 = vL M.Field.en p0 ∧ s.t 1 = vI v1 ∧ s.t 5 = vI v5) ∧ uC p0 m v1 v5 = some r
 have e1 := @uC.eq_2
 unfold wA at h
 exact sgo 27 [.tmp 4] Tryz.func386
instance : bC 386 (type_of% @aRn) := ⟨@aRn⟩
theorem aRf (p0 p1 r) (h : wI p0 p1 = some r) : Sc 350 [aX (M.aU.en p0), aI p1] [rI r] := by
 unfold wI at h
 exact sgo 12 [.tmp 4] Tryz.func350
instance : bC 350 (type_of% @aRf) := ⟨@aRf⟩
theorem aQB (p0 p1 r) (h : aAs p0 p1 = some r) : Sc 292 [aX (M.Item.en p0), aI p1] [rI r] := by
 unfold aAs at h
 exact sgo 18 [.tmp 4] Tryz.func292
instance : bC 292 (type_of% @aQB) := ⟨@aQB⟩
theorem aRu (p0 p1 r) (h : xU p0 p1 = some r) : Sc 225 [aL M.Item.en p0, aI p1] [rI r] := by
 have i1 := inv fun m s => ∃ v1 : Int, ∃ v5 : Int, (s.t 0 = vL M.Item.en p0 ∧ s.t 1 = vI v1 ∧ s.t 5 = vI v5) ∧ wM p0 m v1 v5 = some r
 have e1 := @wM.eq_2
 unfold xU at h
 exact sgo 27 [.tmp 4] Tryz.func225
instance : bC 225 (type_of% @aRu) := ⟨@aRu⟩
theorem aSt (p0 p1 r) (h : oO p0 p1 = some r) : Sc 162 [aX (M.aH.en p0), aI p1] [rI r] := by
 unfold oO at h
 exact sgo 19 [.tmp 4] Tryz.func162
instance : bC 162 (type_of% @aSt) := ⟨@aSt⟩
theorem aSP (p0 p1 r) (h : vY p0 p1 = some r) : Sc 347 [aL M.aH.en p0, aI p1] [rI r] := by
 have i1 := inv fun m s => ∃ v1 : Int, ∃ v5 : Int, (s.t 0 = vL M.aH.en p0 ∧ s.t 1 = vI v1 ∧ s.t 5 = vI v5) ∧ uG p0 m v1 v5 = some r
 have e1 := @uG.eq_2
 unfold vY at h
 exact sgo 27 [.tmp 4] Tryz.func347
instance : bC 347 (type_of% @aSP) := ⟨@aSP⟩
theorem aQi (p0 p1 r) (h : pF p0 p1 = some r) : Sc 385 [aX (M.aA.en p0), aI p1] [rI r] := by
 unfold pF at h
 exact sgo 20 [.tmp 4] Tryz.func385
instance : bC 385 (type_of% @aQi) := ⟨@aQi⟩
theorem aQE (p0 p1 r) (h : nO p0 p1 = some r) : Sc 348 [aL M.aA.en p0, aI p1] [rI r] := by
 have i1 := inv fun m s => ∃ v1 : Int, ∃ v5 : Int, (s.t 0 = vL M.aA.en p0 ∧ s.t 1 = vI v1 ∧ s.t 5 = vI v5) ∧ nY p0 m v1 v5 = some r
 have e1 := @nY.eq_2
 unfold nO at h
 exact sgo 27 [.tmp 4] Tryz.func348
instance : bC 348 (type_of% @aQE) := ⟨@aQE⟩
theorem aQX (p0 p1 r) (h : pP p0 p1 = some r) : Sc 288 [aX (M.Database.en p0), aI p1] [rI r] := by
 unfold pP at h
 exact sgo 25 [.tmp 4] Tryz.func288
instance : bC 288 (type_of% @aQX) := ⟨@aQX⟩
theorem aQ4 (p0 p1 r) (h : aAA p0 p1 = some r) : Sc 220 [aX (M.bE.en p0), aI p1] [rI r] := by
 unfold aAA at h
 exact sgo 18 [.tmp 4] Tryz.func220
instance : bC 220 (type_of% @aQ4) := ⟨@aQ4⟩
theorem aRi (p0 p1 r) (h : xM p0 p1 = some r) : Sc 226 [aX (M.aW.en p0), aI p1] [rI r] := by
 unfold xM at h
 exact sgo 19 [.tmp 4] Tryz.func226
instance : bC 226 (type_of% @aRi) := ⟨@aRi⟩
theorem aSb (p0 p1 r) (h : pE p0 p1 = some r) : Sc 164 [aL M.aW.en p0, aI p1] [rI r] := by
 have i1 := inv fun m s => ∃ v1 : Int, ∃ v5 : Int, (s.t 0 = vL M.aW.en p0 ∧ s.t 1 = vI v1 ∧ s.t 5 = vI v5) ∧ uF p0 m v1 v5 = some r
 have e1 := @uF.eq_2
 unfold pE at h
 exact sgo 27 [.tmp 4] Tryz.func164
instance : bC 164 (type_of% @aSb) := ⟨@aSb⟩
theorem aQG (p0 p1 r) (h : vF p0 p1 = some r) : Sc 349 [aX (M.aV.en p0), aI p1] [rI r] := by
 unfold vF at h
 exact sgo 12 [.tmp 4] Tryz.func349
instance : bC 349 (type_of% @aQG) := ⟨@aQG⟩
theorem aQk (p0 p1 r) (h : aAc p0 p1 = some r) : Sc 290 [aX (M.Sync.en p0), aI p1] [rI r] := by
 unfold aAc at h
 exact sgo 12 [.tmp 4] Tryz.func290
instance : bC 290 (type_of% @aQk) := ⟨@aQk⟩
theorem aQl (p0 p1 r) (h : sS p0 p1 = some r) : Sc 221 [aX (M.aC.en p0), aI p1] [rI r] := by
 unfold sS at h
 exact sgo 18 [.tmp 4] Tryz.func221
instance : bC 221 (type_of% @aQl) := ⟨@aQl⟩
theorem aSG (p0 p1 r) (h : vM p0 p1 = some r) : Sc 157 [aX (M.aE.en p0), aI p1] [rI r] := by
 unfold vM at h
 exact sgo 44 [.tmp 4] Tryz.func157
instance : bC 157 (type_of% @aSG) := ⟨@aSG⟩
theorem c70 (p0 p1 r) (h : sN p0 p1 = some r) : Sc 70 [aL M.aE.en p0, aI p1] [rI r] := by
 have i1 := inv fun m s => ∃ v1 : Int, ∃ v5 : Int, (s.t 0 = vL M.aE.en p0 ∧ s.t 1 = vI v1 ∧ s.t 5 = vI v5) ∧ qX p0 m v1 v5 = some r
 have e1 := @qX.eq_2
 unfold sN at h
 exact sgo 27 [.tmp 4] Tryz.func70
instance : bC 70 (type_of% @c70) := ⟨@c70⟩
theorem c20 (p0 p1 r) (h : sD p0 p1 = some r) : Sc 20 [aX (M.aM.en p0), aI p1] [rI r] := by
 unfold sD at h
 exact sgo 12 [.tmp 4] Tryz.func20
instance : bC 20 (type_of% @c20) := ⟨@c20⟩
theorem aTI (p0 p1 r) (h : uP p0 p1 = some r) : Sc 222 [aX (M.aN.en p0), aI p1] [rI r] := by
 unfold uP at h
 exact sgo 13 [.tmp 4] Tryz.func222
instance : bC 222 (type_of% @aTI) := ⟨@aTI⟩
theorem aTG (p0 p1 r) (h : tN p0 p1 = some r) : Sc 158 [aL M.aN.en p0, aI p1] [rI r] := by
 have i1 := inv fun m s => ∃ v1 : Int, ∃ v5 : Int, (s.t 0 = vL M.aN.en p0 ∧ s.t 1 = vI v1 ∧ s.t 5 = vI v5) ∧ rH p0 m v1 v5 = some r
 have e1 := @rH.eq_2
 unfold tN at h
 exact sgo 27 [.tmp 4] Tryz.func158
instance : bC 158 (type_of% @aTG) := ⟨@aTG⟩
theorem aSg (p0 p1 r) (h : zA p0 p1 = some r) : Sc 291 [aX (M.Instr.en p0), aI p1] [rI r] := by
 unfold zA at h
 exact sgo 13 [.tmp 4] Tryz.func291
instance : bC 291 (type_of% @aSg) := ⟨@aSg⟩
theorem aQv (p0 p1 r) (h : vU p0 p1 = some r) : Sc 223 [aL M.Instr.en p0, aI p1] [rI r] := by
 have i1 := inv fun m s => ∃ v1 : Int, ∃ v5 : Int, (s.t 0 = vL M.Instr.en p0 ∧ s.t 1 = vI v1 ∧ s.t 5 = vI v5) ∧ uD p0 m v1 v5 = some r
 have e1 := @uD.eq_2
 unfold vU at h
 exact sgo 27 [.tmp 4] Tryz.func223
instance : bC 223 (type_of% @aQv) := ⟨@aQv⟩
theorem aQ6 (p0 p1 r) (h : aAJ p0 p1 = some r) : Sc 224 [aL enI p0, aI p1] [rI r] := by
 unfold aAJ at h
 exact sgo 12 [.tmp 4] Tryz.func224
instance : bC 224 (type_of% @aQ6) := ⟨@aQ6⟩
theorem aSo (p0 p1 r) (h : tA p0 p1 = some r) : Sc 159 [aX (M.Machine.en p0), aI p1] [rI r] := by
 unfold tA at h
 exact sgo 18 [.tmp 4] Tryz.func159
instance : bC 159 (type_of% @aSo) := ⟨@aSo⟩
theorem c71 (p0 p1 r) (h : aAB p0 p1 = some r) : Sc 71 [aX (M.bG.en p0), aI p1] [rI r] := by
 unfold aAB at h
 exact sgo 32 [.tmp 4] Tryz.func71
instance : bC 71 (type_of% @c71) := ⟨@c71⟩
theorem c21 (p0 p1 r) (h : yG p0 p1 = some r) : Sc 21 [aL M.bG.en p0, aI p1] [rI r] := by
 have i1 := inv fun m s => ∃ v1 : Int, ∃ v5 : Int, (s.t 0 = vL M.bG.en p0 ∧ s.t 1 = vI v1 ∧ s.t 5 = vI v5) ∧ wX p0 m v1 v5 = some r
 have e1 := @wX.eq_2
 unfold yG at h
 exact sgo 27 [.tmp 4] Tryz.func21
instance : bC 21 (type_of% @c21) := ⟨@c21⟩
theorem aSn (p0 p1 r) (h : aAg p0 p1 = some r) : Sc 160 [aX (M.bK.en p0), aI p1] [rI r] := by
 unfold aAg at h
 exact sgo 13 [.tmp 4] Tryz.func160
instance : bC 160 (type_of% @aSn) := ⟨@aSn⟩
theorem c72 (p0 p1 r) (h : xX p0 p1 = some r) : Sc 72 [aL M.bK.en p0, aI p1] [rI r] := by
 have i1 := inv fun m s => ∃ v1 : Int, ∃ v5 : Int, (s.t 0 = vL M.bK.en p0 ∧ s.t 1 = vI v1 ∧ s.t 5 = vI v5) ∧ wW p0 m v1 v5 = some r
 have e1 := @wW.eq_2
 unfold xX at h
 exact sgo 27 [.tmp 4] Tryz.func72
instance : bC 72 (type_of% @c72) := ⟨@c72⟩
theorem c22 (p0 p1 r) (h : oA p0 p1 = some r) : Sc 22 [aX (M.aF.en p0), aI p1] [rI r] := by
 unfold oA at h
 exact sgo 12 [.tmp 4] Tryz.func22
instance : bC 22 (type_of% @c22) := ⟨@c22⟩
theorem c73 (p0 p1 r) (h : yH p0 p1 = some r) : Sc 73 [aL M.fD.en p0, aI p1] [rI r] := by
 unfold yH at h
 exact sgo 12 [.tmp 4] Tryz.func73
instance : bC 73 (type_of% @c73) := ⟨@c73⟩
theorem c23 (p0 p1 r) (h : sC p0 p1 = some r) : Sc 23 [aX (M.Channel.en p0), aI p1] [rI r] := by
 unfold sC at h
 exact sgo 12 [.tmp 4] Tryz.func23
instance : bC 23 (type_of% @c23) := ⟨@c23⟩
theorem aPo (p0 p1 r) (h : rP p0 p1 = some r) : Sc 161 [aL enS p0, aI p1] [rI r] := by
 have i1 := inv fun m s => ∃ v1 : Int, ∃ v5 : Int, (s.t 0 = vL enS p0 ∧ s.t 1 = vI v1 ∧ s.t 5 = vI v5) ∧ rL p0 m v1 v5 = some r
 have e1 := @rL.eq_2
 unfold rP at h
 exact sgo 28 [.tmp 4] Tryz.func161
instance : bC 161 (type_of% @aPo) := ⟨@aPo⟩
theorem c74 (p0 p1 r) (h : aAi p0 p1 = some r) : Sc 74 [aX (M.Site.en p0), aI p1] [rI r] := by
 unfold aAi at h
 exact sgo 19 [.tmp 4] Tryz.func74
instance : bC 74 (type_of% @c74) := ⟨@c74⟩
theorem c24 (p0 p1 r) (h : xD p0 p1 = some r) : Sc 24 [aL M.Site.en p0, aI p1] [rI r] := by
 have i1 := inv fun m s => ∃ v1 : Int, ∃ v5 : Int, (s.t 0 = vL M.Site.en p0 ∧ s.t 1 = vI v1 ∧ s.t 5 = vI v5) ∧ wN p0 m v1 v5 = some r
 have e1 := @wN.eq_2
 unfold xD at h
 exact sgo 27 [.tmp 4] Tryz.func24
instance : bC 24 (type_of% @c24) := ⟨@c24⟩
theorem aRI (p0 p1 r) (h : qL p0 p1 = some r) : Sc 163 [aL M.aJ.en p0, aI p1] [rI r] := by
 unfold qL at h
 exact sgo 12 [.tmp 4] Tryz.func163
instance : bC 163 (type_of% @aRI) := ⟨@aRI⟩
theorem c75 (p0 p1 r) (h : vG p0 p1 = some r) : Sc 75 [aX (M.Server.en p0), aI p1] [rI r] := by
 unfold vG at h
 exact sgo 24 [.tmp 4] Tryz.func75
instance : bC 75 (type_of% @c75) := ⟨@c75⟩
theorem c25 (p0 p1 r) (h : tM p0 p1 = some r) : Sc 25 [aL M.Server.en p0, aI p1] [rI r] := by
 have i1 := inv fun m s => ∃ v1 : Int, ∃ v5 : Int, (s.t 0 = vL M.Server.en p0 ∧ s.t 1 = vI v1 ∧ s.t 5 = vI v5) ∧ rJ p0 m v1 v5 = some r
 have e1 := @rJ.eq_2
 unfold tM at h
 exact sgo 27 [.tmp 4] Tryz.func25
instance : bC 25 (type_of% @c25) := ⟨@c25⟩
theorem c7 (p0 p1 r) (h : yW p0 p1 = some r) : Sc 7 [aX (M.World.en p0), aI p1] [rI r] := by
 unfold yW at h
 exact sgo 42 [.tmp 4] Tryz.func7
instance : bC 7 (type_of% @c7) := ⟨@c7⟩
end Go.Proofs.YtecmnmaaopkdfaaGreat.gen
