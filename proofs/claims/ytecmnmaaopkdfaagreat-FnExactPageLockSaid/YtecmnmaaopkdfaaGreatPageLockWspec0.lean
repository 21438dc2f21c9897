/-
  Helper text. No conditions.
-/
import Derived.Test.YtecmnmaaopkdfaaGreatPageLockTi
namespace Go.Proofs.YtecmnmaaopkdfaaGreat.gen
open Go Go.Sh
set_option linter.unusedVariables false
set_option linter.unusedSimpArgs false
set_option maxRecDepth 20000
set_option maxHeartbeats 4000000
theorem aQO (p0 r) (h : xK p0 = some r) : Sc 277 [aX (M.Response.en p0)] [(true, M.Response.rs r)] := by
 unfold xK at h
 exact sgo 11 [.cell 2 110] Tryz.func277
instance : bC 277 (type_of% @aQO) := ⟨@aQO⟩
theorem aQa (p0 r) (h : wE p0 = some r) : Sc 294 [aX (M.Cache.en p0)] [(true, M.Cache.rs r)] := by
 have i1 := aJj [.b 3 1 7050000 352 7] fun m s => ∃ v4 : Int, ∃ r50000 : List M.Cached, ∃ u50000 : Nat, (s.t 1 = vP 1 1 0 ∧ s.t 2 = vP 2 1 0 ∧ s.t 3 = vP 3 1 0 ∧ s.t 4 = vI v4 ∧ s.h 1 = (1, oX 342 (M.Cache.en p0)) ∧ s.h 2 = (1, oB 342 [cI 0, .nil]) ∧ s.h 3 = (1, oB 342 [cI p0.Version, .row 7050000 u50000]) ∧ s.h 7050000 = (u50000, oW 352 7 M.Cached.en r50000)) ∧ iE p0 m v4 r50000 = some r
 have e1 := @iE.eq_2
 unfold wE at h
 exact sgo 36 [.cell 2 342] Tryz.func294
instance : bC 294 (type_of% @aQa) := ⟨@aQa⟩
theorem aQh (p0 r) (h : xO p0 = some r) : Sc 227 [aX (M.aT.en p0)] [(true, M.aT.rs r)] := by
 have i1 := aJj [.b 3 0 7050000 342 2] fun m s => ∃ v4 : Int, ∃ r50000 : List M.Cache, ∃ u50000 : Nat, (s.t 1 = vP 1 1 0 ∧ s.t 2 = vP 2 1 0 ∧ s.t 3 = vP 3 1 0 ∧ s.t 4 = vI v4 ∧ s.h 1 = (1, oX 197 (M.aT.en p0)) ∧ s.h 2 = (1, oB 197 [.nil]) ∧ s.h 3 = (1, oB 197 [.row 7050000 u50000]) ∧ s.h 7050000 = (u50000, oW 342 2 M.Cache.en r50000)) ∧ jJ p0 m v4 r50000 = some r
 have e1 := @jJ.eq_2
 unfold xO at h
 exact sgo 25 [.cell 2 197] Tryz.func227
instance : bC 227 (type_of% @aQh) := ⟨@aQh⟩
theorem aQR (p0 r) (h : aAO p0 = some r) : Sc 297 [aX (M.aU.en p0)] [(true, M.aU.rs r)] := by
 unfold aAO at h
 exact sgo 8 [.cell 2 285] Tryz.func297
instance : bC 297 (type_of% @aQR) := ⟨@aQR⟩
theorem aOv (p0 r) (h : wL p0 = some r) : Sc 231 [aX (M.Item.en p0)] [(true, M.Item.rs r)] := by
 unfold wL at h
 exact sgo 9 [.cell 2 287] Tryz.func231
instance : bC 231 (type_of% @aOv) := ⟨@aOv⟩
theorem aTO (p0 r) (h : rG p0 = some r) : Sc 167 [aX (M.aH.en p0)] [(true, M.aH.rs r)] := by
 have i1 := aJj [.b 3 1 7050000 287 4] fun m s => ∃ v4 : Int, ∃ r50000 : List M.Item, ∃ u50000 : Nat, (s.t 1 = vP 1 1 0 ∧ s.t 2 = vP 2 1 0 ∧ s.t 3 = vP 3 1 0 ∧ s.t 4 = vI v4 ∧ s.h 1 = (1, oX 141 (M.aH.en p0)) ∧ s.h 2 = (1, oB 141 [cS (⟨#[]⟩ : ByteArray), .nil, cI 0]) ∧ s.h 3 = (1, oB 141 [cS p0.Name, .row 7050000 u50000, cI p0.Auto]) ∧ s.h 7050000 = (u50000, oW 287 4 M.Item.en r50000)) ∧ kS p0 m v4 r50000 = some r
 have e1 := @kS.eq_2
 unfold rG at h
 exact sgo 29 [.cell 2 141] Tryz.func167
instance : bC 167 (type_of% @aTO) := ⟨@aTO⟩
theorem aQ1 (p0 r) (h : aAR p0 = some r) : Sc 295 [aX (M.Database.en p0)] [(true, M.Database.rs r)] := by
 have i1 := aJj [.b 3 2 7050000 141 3] fun m s => ∃ v4 : Int, ∃ r50000 : List M.aH, ∃ u50000 : Nat, (s.t 1 = vP 1 1 0 ∧ s.t 2 = vP 2 1 0 ∧ s.t 3 = vP 3 1 0 ∧ s.t 4 = vI v4 ∧ s.h 1 = (1, oX 201 (M.Database.en p0)) ∧ s.h 2 = (1, oB 201 [cS (⟨#[]⟩ : ByteArray), cI 0, .nil, .nil]) ∧ s.h 3 = (1, oB 201 [cS p0.Name, cI p0.Version, .row 7050000 u50000, .row 100009 2]) ∧ s.h 100009 = (2, oW 345 2 M.aA.en p0.Unique) ∧ s.h 7050000 = (u50000, oW 141 3 M.aH.en r50000)) ∧ kP p0 m v4 r50000 = some r
 have e1 := @kP.eq_2
 unfold aAR at h
 exact sgo 33 [.cell 2 201] Tryz.func295
instance : bC 295 (type_of% @aQ1) := ⟨@aQ1⟩
theorem aQy (p0 r) (h : yQ p0 = some r) : Sc 228 [aX (M.bE.en p0)] [(true, M.bE.rs r)] := by
 unfold yQ at h
 exact sgo 13 [.cell 2 203] Tryz.func228
instance : bC 228 (type_of% @aQy) := ⟨@aQy⟩
theorem aQH (p0 r) (h : yE p0 = some r) : Sc 351 [aX (M.aV.en p0)] [(true, M.aV.rs r)] := by
 unfold yE at h
 exact sgo 11 [.cell 2 205] Tryz.func351
instance : bC 351 (type_of% @aQH) := ⟨@aQH⟩
theorem aSM (p0 r) (h : xZ p0 = some r) : Sc 296 [aX (M.Sync.en p0)] [(true, M.Sync.rs r)] := by
 unfold xZ at h
 exact sgo 10 [.cell 2 207] Tryz.func296
instance : bC 296 (type_of% @aSM) := ⟨@aSM⟩
theorem aSh (p0 r) (h : yU p0 = some r) : Sc 229 [aX (M.aC.en p0)] [(true, M.aC.rs r)] := by
 unfold yU at h
 exact sgo 12 [.cell 2 209] Tryz.func229
instance : bC 229 (type_of% @aSh) := ⟨@aSh⟩
theorem aTc (p0 r) (h : xE p0 = some r) : Sc 165 [aX (M.aE.en p0)] [(true, M.aE.rs r)] := by
 unfold xE at h
 exact sgo 18 [.cell 2 211] Tryz.func165
instance : bC 165 (type_of% @aTc) := ⟨@aTc⟩
theorem c76 (p0 r) (h : xC p0 = some r) : Sc 76 [aX (M.aM.en p0)] [(true, M.aM.rs r)] := by
 have i1 := aJj [.b 3 0 7050000 211 24] fun m s => ∃ v4 : Int, ∃ r50000 : List M.aE, ∃ u50000 : Nat, (s.t 1 = vP 1 1 0 ∧ s.t 2 = vP 2 1 0 ∧ s.t 3 = vP 3 1 0 ∧ s.t 4 = vI v4 ∧ s.h 1 = (1, oX 39 (M.aM.en p0)) ∧ s.h 2 = (1, oB 39 [.nil]) ∧ s.h 3 = (1, oB 39 [.row 7050000 u50000]) ∧ s.h 7050000 = (u50000, oW 211 24 M.aE.en r50000)) ∧ jE p0 m v4 r50000 = some r
 have e1 := @jE.eq_2
 unfold xC at h
 exact sgo 25 [.cell 2 39] Tryz.func76
instance : bC 76 (type_of% @c76) := ⟨@c76⟩
theorem aQw (p0 r) (h : sB p0 = some r) : Sc 230 [aL M.Instr.en p0] [rW 282 4 M.Instr.en r] := by
 unfold sB at h
 exact sgo 6 [.tmp 2] Tryz.func230
instance : bC 230 (type_of% @aQw) := ⟨@aQw⟩
theorem aSe (p0 r) (h : yK p0 = some r) : Sc 166 [aX (M.Machine.en p0)] [(true, M.Machine.rs r)] := by
 unfold yK at h
 exact sgo 15 [.cell 2 102] Tryz.func166
instance : bC 166 (type_of% @aSe) := ⟨@aSe⟩
theorem c77 (p0 r) (h : yV p0 = some r) : Sc 77 [aX (M.bG.en p0)] [(true, M.bG.rs r)] := by
 unfold yV at h
 exact sgo 15 [.cell 2 104] Tryz.func77
instance : bC 77 (type_of% @c77) := ⟨@c77⟩
theorem c78 (p0 r) (h : jO p0 = some r) : Sc 78 [aX (M.aF.en p0)] [(true, M.aF.rs r)] := by
 unfold jO at h
 exact sgo 8 [.cell 2 43] Tryz.func78
instance : bC 78 (type_of% @c78) := ⟨@c78⟩
theorem c79 (p0 r) (h : tX p0 = some r) : Sc 79 [aX (M.Channel.en p0)] [(true, M.Channel.rs r)] := by
 unfold tX at h
 exact sgo 8 [.cell 2 46] Tryz.func79
instance : bC 79 (type_of% @c79) := ⟨@c79⟩
theorem c80 (p0 r) (h : yS p0 = some r) : Sc 80 [aX (M.Site.en p0)] [(true, M.Site.rs r)] := by
 unfold yS at h
 exact sgo 11 [.cell 2 75] Tryz.func80
instance : bC 80 (type_of% @c80) := ⟨@c80⟩
theorem c81 (p0 r) (h : yJ p0 = some r) : Sc 81 [aX (M.Server.en p0)] [(true, M.Server.rs r)] := by
 unfold yJ at h
 exact sgo 15 [.cell 2 145] Tryz.func81
instance : bC 81 (type_of% @c81) := ⟨@c81⟩
theorem c26 (p0 r) (h : zB p0 = some r) : Sc 26 [aX (M.World.en p0)] [(true, M.World.rs r)] := by
 have i1 := fun (x1 : M.aM) => inv fun m s => ∃ v4 : Int, ∃ r12 : List M.bG, ∃ u12 : Nat, (s.t 1 = vP 1 1 0 ∧ s.t 2 = vP 2 1 0 ∧ s.t 3 = vP 3 1 0 ∧ s.t 4 = vI v4 ∧ s.h 1 = (1, oX 50 (M.World.en p0)) ∧ s.h 2 = (1, oB 50 [cI 0, cB false, cI 0, .nil, .nil, cI 0, .nil, .nil, .nil, .nil]) ∧ s.h 3 = (1, oB 50 [cI p0.Now, cB p0.Online, cI p0.Device, .row 100010 1, .row 100012 u12, cI p0.NextPage, cL M.bK.en p0.Locks.Locks, cL M.fD.en p0.Channel.Mails, cL M.Site.en p0.Sites, cL M.Server.en p0.Servers]) ∧ s.h 100010 = (1, oW 211 24 M.aE.en x1.Buckets) ∧ s.h 100012 = (u12, oW 104 11 M.bG.en r12)) ∧ iB p0 x1 m v4 r12 = some r
 have e1 := @iB.eq_2
 have i2 := fun (x1 : M.aM) (r12 : List M.bG) (x42 : M.aF) (x44 : M.Channel) (s12 : St) (u12 : Nat) => inv fun m s => ∃ v5 : Int, ∃ r40 : List M.Site, ∃ u40 : Nat, (s.t 1 = vP 1 1 0 ∧ s.t 2 = vP 2 1 0 ∧ s.t 3 = vP 3 1 0 ∧ s.t 5 = vI v5 ∧ s.h 1 = (1, oX 50 (M.World.en p0)) ∧ s.h 2 = (1, oB 50 [cI 0, cB false, cI 0, .nil, .nil, cI 0, .nil, .nil, .nil, .nil]) ∧ s.h 3 = (1, oB 50 [cI p0.Now, cB p0.Online, cI p0.Device, .row 100010 1, .row 100012 u12, cI p0.NextPage, .row 100034 ((s12.h 100034).1 + 1), .row 100038 ((s12.h 100038).1 + 1), .row 100040 u40, cL M.Server.en p0.Servers]) ∧ s.h 100010 = (1, oW 211 24 M.aE.en x1.Buckets) ∧ s.h 100012 = (u12, oW 104 11 M.bG.en r12) ∧ s.h 100034 = (((s12.h 100034).1 + 1), oW 186 4 M.bK.en x42.Locks) ∧ s.h 100038 = (((s12.h 100038).1 + 1), oW 183 3 M.fD.en x44.Mails) ∧ s.h 100040 = (u40, oW 75 4 M.Site.en r40)) ∧ gE p0 x1 r12 x42 x44 m v5 r40 = some r
 have e2 := @gE.eq_2
 have i3 := fun (x1 : M.aM) (r12 : List M.bG) (x42 : M.aF) (x44 : M.Channel) (r40 : List M.Site) (s12 : St) (u12 : Nat) (u40 : Nat) => inv fun m s => ∃ v6 : Int, ∃ r60 : List M.Server, ∃ u60 : Nat, (s.t 1 = vP 1 1 0 ∧ s.t 2 = vP 2 1 0 ∧ s.t 3 = vP 3 1 0 ∧ s.t 6 = vI v6 ∧ s.h 1 = (1, oX 50 (M.World.en p0)) ∧ s.h 2 = (1, oB 50 [cI 0, cB false, cI 0, .nil, .nil, cI 0, .nil, .nil, .nil, .nil]) ∧ s.h 3 = (1, oB 50 [cI p0.Now, cB p0.Online, cI p0.Device, .row 100010 1, .row 100012 u12, cI p0.NextPage, .row 100034 ((s12.h 100034).1 + 1), .row 100038 ((s12.h 100038).1 + 1), .row 100040 u40, .row 100060 u60]) ∧ s.h 100010 = (1, oW 211 24 M.aE.en x1.Buckets) ∧ s.h 100012 = (u12, oW 104 11 M.bG.en r12) ∧ s.h 100034 = (((s12.h 100034).1 + 1), oW 186 4 M.bK.en x42.Locks) ∧ s.h 100038 = (((s12.h 100038).1 + 1), oW 183 3 M.fD.en x44.Mails) ∧ s.h 100040 = (u40, oW 75 4 M.Site.en r40) ∧ s.h 100060 = (u60, oW 145 5 M.Server.en r60)) ∧ gC p0 x1 r12 x42 x44 r40 m v6 r60 = some r
 have e3 := @gC.eq_2
 unfold zB at h
 exact sgo 81 [.cell 2 50] Tryz.func26
instance : bC 26 (type_of% @c26) := ⟨@c26⟩
theorem aSx (p0 p1 r) (h : xR p0 p1 = some r) : Sc 138 [aL M.bG.en p0, aI p1] [rI r] := by
 have i1 := inv fun m s => ∃ v5 : Int, (s.t 0 = vL M.bG.en p0 ∧ s.t 1 = vI p1 ∧ s.t 5 = vI v5) ∧ jD p0 p1 m v5 = some r
 have e1 := @jD.eq_2
 unfold xR at h
 exact sgo 20 [.tmp 4] Tryz.func138
instance : bC 138 (type_of% @aSx) := ⟨@aSx⟩
theorem c58 (p0 p1 r) (h : sG p0 p1 = some r) : Sc 58 [aX (M.World.en p0), aI p1] [rI r] := by
 unfold sG at h
 exact sgo 9 [.tmp 4] Tryz.func58
instance : bC 58 (type_of% @c58) := ⟨@c58⟩
theorem c87 (p0 p1 p2 r) (h : bJ p0 p1 p2 = some r) : Sc 87 [aI p0, aI p1, aI p2] [rB r] := by
 unfold bJ at h
 exact sgo 15 [.tmp 6] Tryz.func87
instance : bC 87 (type_of% @c87) := ⟨@c87⟩
theorem aPO (p0 r) (h : cC p0 = some r) : Sc 168 [aS p0] [rB r] := by
 have i1 := inv fun m s => ∃ v3 : Int, (s.t 0 = vS p0 ∧ s.t 3 = vI v3) ∧ iW p0 m v3 = some r
 have e1 := @iW.eq_2
 unfold cC at h
 exact sgo 23 [.tmp 2] Tryz.func168
instance : bC 168 (type_of% @aPO) := ⟨@aPO⟩
theorem c83 (p0 r) (h : aAF p0 = some r) : Sc 83 [aX (M.Site.en p0)] [rB r] := by
 have i1 := inv fun m s => ∃ v3 : Int, (s.t 1 = vP 1 1 0 ∧ s.t 3 = vI v3 ∧ s.h 1 = (1, oX 75 (M.Site.en p0))) ∧ gY p0 m v3 = some r
 have e1 := @gY.eq_2
 unfold aAF at h
 exact sgo 50 [.tmp 2] Tryz.func83
instance : bC 83 (type_of% @c83) := ⟨@c83⟩
theorem c82 (r) (h : aAK = some r) : Sc 82 [] [rW 9 1 enS r] := by
 unfold aAK at h
 exact sgo 2 [.tmp 0] Tryz.func82
instance : bC 82 (type_of% @c82) := ⟨@c82⟩
theorem aPz (p0 r) (h : wU p0 = some r) : Sc 298 [aS p0] [rB r] := by
 have i1 := inv fun m s => ∃ v3 : Int, (s.t 0 = vS p0 ∧ s.t 3 = vI v3) ∧ fZ p0 m v3 = some r
 have e1 := @fZ.eq_2
 unfold wU at h
 exact sgo 35 [.tmp 2] Tryz.func298
instance : bC 298 (type_of% @aPz) := ⟨@aPz⟩
theorem aPZ (p0 r) (h : nW p0 = some r) : Sc 232 [aX (M.Key.en p0)] [rB r] := by
 unfold nW at h
 exact sgo 36 [.tmp 2] Tryz.func232
instance : bC 232 (type_of% @aPZ) := ⟨@aPZ⟩
theorem aSH (p0 r) (h : iP p0 = some r) : Sc 169 [aX (M.aW.en p0)] [rB r] := by
 unfold iP at h
 exact sgo 26 [.tmp 2] Tryz.func169
instance : bC 169 (type_of% @aSH) := ⟨@aSH⟩
theorem aSz (p0 r) (h : qC p0 = some r) : Sc 233 [aX (M.aU.en p0)] [rB r] := by
 have i1 := inv fun m s => ∃ v3 : Int, (s.t 1 = vP 1 1 0 ∧ s.t 3 = vI v3 ∧ s.h 1 = (1, oX 285 (M.aU.en p0))) ∧ fQ p0 m v3 = some r
 have e1 := @fQ.eq_2
 unfold qC at h
 exact sgo 53 [.tmp 2] Tryz.func233
instance : bC 233 (type_of% @aSz) := ⟨@aSz⟩
theorem aP2 (p0 p1 r) (h : wS p0 p1 = some r) : Sc 299 [aB p0, aB p1] [rI r] := by
 unfold wS at h
 exact sgo 7 [.tmp 4] Tryz.func299
instance : bC 299 (type_of% @aP2) := ⟨@aP2⟩
theorem aP1 (p0 p1 r) (h : jW p0 p1 = some r) : Sc 234 [aX (M.Key.en p0), aX (M.Key.en p1)] [rI r] := by
 unfold jW at h
 exact sgo 46 [.tmp 4] Tryz.func234
instance : bC 234 (type_of% @aP1) := ⟨@aP1⟩
theorem aSB (p0 r) (h : oP p0 = some r) : Sc 170 [aX (M.aH.en p0)] [rB r] := by
 have i1 := inv fun m s => ∃ v3 : Int, (s.t 1 = vP 1 1 0 ∧ s.t 3 = vI v3 ∧ s.h 1 = (1, oX 141 (M.aH.en p0))) ∧ gI p0 m v3 = some r
 have e1 := @gI.eq_2
 unfold oP at h
 exact sgo 64 [.tmp 2] Tryz.func170
instance : bC 170 (type_of% @aSB) := ⟨@aSB⟩
theorem c84 (p0 r) (h : vT p0 = some r) : Sc 84 [aX (M.Server.en p0)] [rB r] := by
 have i1 := inv fun m s => ∃ v3 : Int, (s.t 1 = vP 1 1 0 ∧ s.t 3 = vI v3 ∧ s.h 1 = (1, oX 145 (M.Server.en p0))) ∧ fS p0 m v3 = some r
 have e1 := @fS.eq_2
 have i2 := inv fun m s => ∃ v4 : Int, (s.t 1 = vP 1 1 0 ∧ s.t 4 = vI v4 ∧ s.h 1 = (1, oX 145 (M.Server.en p0))) ∧ gT p0 m v4 = some r
 have e2 := @gT.eq_2
 unfold vT at h
 exact sgo 79 [.tmp 2] Tryz.func84
instance : bC 84 (type_of% @c84) := ⟨@c84⟩
theorem c85 (p0 r) (h : zW p0 = some r) : Sc 85 [aX (M.bG.en p0)] [rB r] := by
 have i1 := inv fun m s => ∃ v3 : Int, (s.t 1 = vP 1 1 0 ∧ s.t 3 = vI v3 ∧ s.h 1 = (1, oX 104 (M.bG.en p0))) ∧ kO p0 m v3 = some r
 have e1 := @kO.eq_2
 unfold zW at h
 exact sgo 54 [.tmp 2] Tryz.func85
instance : bC 85 (type_of% @c85) := ⟨@c85⟩
theorem c86 (p0 p1 p2 r) (h : lE p0 p1 p2 = some r) : Sc 86 [aX (M.aM.en p0), aS p1, aS p2] [rI r] := by
 have i1 := inv fun m s => ∃ v7 : Int, (s.t 1 = vS p1 ∧ s.t 2 = vS p2 ∧ s.t 3 = vP 3 1 0 ∧ s.t 7 = vI v7 ∧ s.h 3 = (1, oX 39 (M.aM.en p0))) ∧ fG p0 p1 p2 m v7 = some r
 have e1 := @fG.eq_2
 unfold lE at h
 exact sgo 34 [.tmp 6] Tryz.func86
instance : bC 86 (type_of% @c86) := ⟨@c86⟩
theorem aSV (p0 r) (h : hU p0 = some r) : Sc 235 [aX (M.Registration.en p0)] [rB r] := by
  unfold hU at h
  simp only [EN]
  refine sgn 52 [.tmp 2] Tryz.func235 fun base wd => ?_
  refine sq (rn ?_)
  refine an (sq (rn ?_))
  refine an (sq (rn ?_))
  refine an (sq (sq ?_))
  refine cu (fun s => s.t 1 = vP 1 1 0 ∧ s.t 3 = vI 0 ∧ s.t 4 = vR 100012 1 ∧ s.h 1 = (1, oX 194 (M.Registration.en p0)) ∧ s.h 100012 = (1, oW 3 1 enI ([p0.Active, p0.Waiting, p0.Installing])) ∧ True) ?_
  rintro s1 ⟨f2, f3, f4, f5, f6, _⟩
  refine rn ?_
  refine an (bk ?_)
  refine mG (fun m s => ∃ v3 : Int, ∃ v5 : Int, s.t 1 = vP 1 1 0 ∧ s.t 3 = vI v3 ∧ s.t 4 = vR 100012 1 ∧ s.t 5 = vI v5 ∧ s.h 1 = (1, oX 194 (M.Registration.en p0)) ∧ s.h 100012 = (1, oW 3 1 enI ([p0.Active, p0.Waiting, p0.Installing])) ∧ bP p0 m v3 v5 = some r) fuel ?_ ?_
  · refine ⟨0, 0, ?_, ?_, ?_, ?_, ?_, ?_, h⟩
    all_goals simp +decide only [F, reduceIte, Nat.reduceAdd, Bool.not_true, Bool.not_false, EN, *, -h]
  rintro mL1 s7 ⟨v3, v5, f8, f9, f10, f11, f12, f13, h⟩
  rcases mL1 with _ | mL1
  · exact absurd h (by simp [bP])
  simp only [bP] at h
  refine sq (sq (rn ?_))
  refine an ?_
  rcases aBC (decide (v5 < ((3 : Nat) : Int))) with b14 | b14
  · replace h := bI b14 h
    refine cf (xt (nI (pV (zX (an (sq ?_))))))
    obtain ⟨x25, h26, h⟩ := bind_some h
    refine rn1 (aPO _ _ h26) ?_
    refine an (rt ?_)
    cases h
    simp [Ret, TB, EN, *]
  replace h := bH b14 h
  refine ct (sk (an (sq (bk (sq (sq ?_))))))
  obtain ⟨x15, h16, h⟩ := bind_some h
  obtain ⟨q17, q18, q19⟩ := aR h16
  have q17m := congrArg (Option.map enI) (show ([p0.Active, p0.Waiting, p0.Installing])[v5.toNat]? = some x15 by assumption)
  simp only [← List.getElem?_map, List.map_cons, List.map_nil, Option.map_some, EN] at q17m
  simp only [List.length_cons, List.length_nil, Nat.reduceAdd] at q19
  obtain ⟨x20, h21, h⟩ := bind_some h
  rcases dG (!x20) with b22 | b22
  · replace h := bH b22 h
    refine rn1 (c87 _ _ _ _ h21) ?_
    refine an (ct (sq (rn ?_)))
    refine an (rt ?_)
    cases h
    simp [Ret, TB, EN, *]
  replace h := bI b22 h
  rcases aBC (x15 != 0) with b23 | b23
  · replace h := bI b23 h
    refine rn1 (c87 _ _ _ _ h21) ?_
    refine an (cf (sk (an (sq (rn ?_)))))
    refine an (cf (sk (ab (an (rn ?_)))))
    refine wV ⟨mL1, by omega, v3, (IntKind.i64.wrap (v5 + 1)), ?_, ?_, ?_, ?_, ?_, ?_, h⟩
    all_goals simp +decide only [F, reduceIte, Nat.reduceAdd, Bool.not_true, Bool.not_false, EN, *, -h]
  replace h := bH b23 h
  refine rn1 (c87 _ _ _ _ h21) ?_
  refine an ?_
  rcases dG (decide (x15 ≤ v3)) with b24 | b24
  · replace h := bH b24 h
    refine ct (sq (rn ?_))
    refine an (rt ?_)
    cases h
    simp [Ret, TB, EN, *]
  replace h := bI b24 h
  refine cf (sk (an (sq (rn ?_))))
  refine an (ct (rn ?_))
  refine ab (an (rn ?_))
  refine wV ⟨mL1, by omega, x15, (IntKind.i64.wrap (v5 + 1)), ?_, ?_, ?_, ?_, ?_, ?_, h⟩
  all_goals simp +decide only [F, reduceIte, Nat.reduceAdd, Bool.not_true, Bool.not_false, EN, *, -h]
instance : bC 235 (type_of% @aSV) := ⟨@aSV⟩
theorem aQj (p0 r) (h : qK p0 = some r) : Sc 352 [aX (M.Response.en p0)] [rB r] := by
 unfold qK at h
 exact sgo 22 [.tmp 2] Tryz.func352
instance : bC 352 (type_of% @aQj) := ⟨@aQj⟩
theorem aSp (p0 r) (h : lC p0 = some r) : Sc 300 [aL M.Cached.en p0] [rB r] := by
 have i1 := inv fun m s => ∃ v3 : Int, (s.t 0 = vL M.Cached.en p0 ∧ s.t 3 = vI v3) ∧ eD p0 m v3 = some r
 have e1 := @eD.eq_2
 have i2 := fun (v3 : Int) (x5 : M.Cached) (k20 : Int → Option Bool) => inv fun m s => ∃ v4_L2 : Int, (s.t 0 = vL M.Cached.en p0 ∧ s.t 3 = vI v3 ∧ s.t 4 = vI v4_L2) ∧ fE p0 v3 x5 k20 m v4_L2 = some r
 have e2 := @fE.eq_2
 unfold lC at h
 exact sgo 68 [.tmp 2] Tryz.func300
instance : bC 300 (type_of% @aSp) := ⟨@aSp⟩
theorem aSi (p0 r) (h : pK p0 = some r) : Sc 236 [aX (M.aT.en p0)] [rB r] := by
 have i1 := inv fun m s => ∃ v3 : Int, (s.t 1 = vP 1 1 0 ∧ s.t 3 = vI v3 ∧ s.h 1 = (1, oX 197 (M.aT.en p0))) ∧ dY p0 m v3 = some r
 have e1 := @dY.eq_2
 unfold pK at h
 exact sgo 53 [.tmp 2] Tryz.func236
instance : bC 236 (type_of% @aSi) := ⟨@aSi⟩
theorem aRG (p0 p1 r) (h : rR p0 p1 = some r) : Sc 301 [aX (M.Database.en p0), aS p1] [rI r] := by
 have i1 := inv fun m s => ∃ v5 : Int, (s.t 1 = vS p1 ∧ s.t 2 = vP 2 1 0 ∧ s.t 5 = vI v5 ∧ s.h 2 = (1, oX 201 (M.Database.en p0))) ∧ hD p0 p1 m v5 = some r
 have e1 := @hD.eq_2
 unfold rR at h
 exact sgo 22 [.tmp 4] Tryz.func301
instance : bC 301 (type_of% @aRG) := ⟨@aRG⟩
theorem aPM (p0 p1 r) (h : jQ p0 p1 = some r) : Sc 354 [aX (M.aU.en p0), aS p1] [rI r.1, rB r.2] := by
 have i1 := inv fun m s => ∃ v6 : Int, (s.t 1 = vS p1 ∧ s.t 2 = vP 2 1 0 ∧ s.t 6 = vI v6 ∧ s.h 2 = (1, oX 285 (M.aU.en p0))) ∧ kJ p0 p1 m v6 = some r
 have e1 := @kJ.eq_2
 unfold jQ at h
 exact sgo 28 [.tmp 4, .tmp 5] Tryz.func354
instance : bC 354 (type_of% @aPM) := ⟨@aPM⟩
theorem aPS (p0 p1 p2 r) (h : aAW p0 p1 p2 = some r) : Sc 387 [aX (M.Item.en p0), aX (M.Item.en p1), aS p2] [rB r] := by
 unfold aAW at h
 exact sgo 41 [.tmp 6] Tryz.func387
instance : bC 387 (type_of% @aPS) := ⟨@aPS⟩
theorem aRk (p0 p1 r) (h : yY p0 p1 = some r) : Sc 353 [aX (M.aH.en p0), aS p1] [rW 287 4 M.Item.en r] := by
  unfold yY at h
  simp only [EN]
  refine sgn 72 [.tmp 4] Tryz.func353 fun base wd => ?_
  refine sq (rn ?_)
  refine an (sq (rn ?_))
  refine an (sq (sq ?_))
  refine cu (fun s => s.t 1 = vS p1 ∧ s.t 2 = vP 2 1 0 ∧ s.t 5 = vR 100011 1 ∧ s.h 2 = (1, oX 141 (M.aH.en p0)) ∧ s.h 100011 = (1, oW 287 4 M.Item.en ([] : List M.Item)) ∧ True) ?_
  rintro s1 ⟨f2, f3, f4, f5, f6, _⟩
  refine rn ?_
  refine an (bk ?_)
  refine aMm ((Gho.aKz (i := 5) (K := 7050000) (j := 100011) (by simp +decide only [F, reduceIte, Nat.reduceAdd, Bool.not_true, Bool.not_false, EN, *, -h]; rfl) (by simp +decide only [F, reduceIte, Nat.reduceAdd, Bool.not_true, Bool.not_false, EN, *, -h]; rfl))) ?_
  refine aKD (fun m s => ∃ v6 : Int, ∃ r50000 : List M.Item, ∃ u50000 : Nat, s.t 1 = vS p1 ∧ s.t 2 = vP 2 1 0 ∧ s.t 5 = vR 7050000 u50000 ∧ s.t 6 = vI v6 ∧ s.h 2 = (1, oX 141 (M.aH.en p0)) ∧ s.h 7050000 = (u50000, oW 287 4 M.Item.en r50000) ∧ gB p0 p1 m v6 r50000 = some r) fuel ?_ ?_
  · refine ⟨0, ([] : List M.Item), ((s1.h 7050000).1 + 1), ?_, ?_, ?_, ?_, ?_, ?_, h⟩
    all_goals simp +decide only [F, reduceIte, Nat.reduceAdd, Bool.not_true, Bool.not_false, EN, *, -h]
  rintro mL1 s7 ⟨v6, r50000, u50000, f8, f9, f10, f11, f12, f13, h⟩
  rcases mL1 with _ | mL1
  · exact absurd h (by simp [gB])
  simp only [gB] at h
  refine sq (sq (rn ?_))
  refine an ?_
  rcases aBC (decide (v6 < (List.length p0.Items : Int))) with b14 | b14
  · replace h := bI b14 h
    refine cf (xt (nI (pV (zX (an (sq (rn ?_)))))))
    refine an (rt ?_)
    cases h
    simp [Ret, TB, EN, *]
  replace h := bH b14 h
  refine ct (sk (an (sq (bk (sq (sq ?_))))))
  obtain ⟨x15, h16, h⟩ := bind_some h
  obtain ⟨q17, q18, q19⟩ := aR h16
  obtain ⟨x20, h21, h⟩ := bind_some h
  refine rn1 (aPM _ _ _ h21) ?_
  refine an (sq (rn ?_))
  refine an ?_
  rcases dG (!x20.2) with b22 | b22
  · replace h := bH b22 h
    refine ct (xt (nI (zX (an (rn ?_)))))
    refine wV ⟨_, (Gho.aKz (i := 5) (K := 7050000) (j := 7050000) (by simp +decide only [F, reduceIte, Nat.reduceAdd, Bool.not_true, Bool.not_false, EN, *, -h]; rfl) (by simp +decide only [F, reduceIte, Nat.reduceAdd, Bool.not_true, Bool.not_false, EN, *, -h]; rfl)), mL1, by omega, (IntKind.i64.wrap (v6 + 1)), r50000, (u50000 + 1), ?_, ?_, ?_, ?_, ?_, ?_, h⟩
    all_goals simp +decide only [F, reduceIte, Nat.reduceAdd, Bool.not_true, Bool.not_false, EN, *, -h]
  replace h := bI b22 h
  refine cf (sk (an (sq (rn ?_))))
  refine an (sq (bk ?_))
  obtain ⟨k24, e25, h⟩ := aPc (f := fun kk => gA p1 r50000 x15 kk fuel (List.length r50000 : Int)) h
  refine mG (fun m s => ∃ v9_L2 : Int, s.t 1 = vS p1 ∧ s.t 2 = vP 2 1 0 ∧ s.t 5 = vR 7050000 u50000 ∧ s.t 6 = vI v6 ∧ s.t 9 = vI v9_L2 ∧ s.h 2 = (1, oX 141 (M.aH.en p0)) ∧ s.h 7050000 = (u50000, oW 287 4 M.Item.en r50000) ∧ gA p1 r50000 x15 k24 m v9_L2 = some r) fuel ?_ ?_
  · refine ⟨(List.length r50000 : Int), ?_, ?_, ?_, ?_, ?_, ?_, ?_, h⟩
    all_goals simp +decide only [F, reduceIte, Nat.reduceAdd, Bool.not_true, Bool.not_false, EN, *, -h]
  rintro mL2 s23 ⟨v9_L2, f26, f27, f28, f29, f30, f31, f32, h⟩
  rcases mL2 with _ | mL2
  · exact absurd h (by simp [gA])
  simp only [gA] at h
  refine sq (sq ?_)
  rcases aBC (decide (v9_L2 > 0)) with b33 | b33
  · replace h := bI b33 h
    refine rd mixed ?_
    refine an (cf (xt (nI ?_)))
    subst e25
    refine pV (zX (an (sq ?_)))
    obtain ⟨x79, h80, h⟩ := bind_some h
    obtain ⟨x81, h82, h⟩ := bind_some h
    apply aAz
    · simp +decide only [E, reduceIte, Nat.reduceAdd, Nat.reduceMul, Bool.not_true, Bool.not_false, ← List.map_take, ← List.map_drop, L, aBZ, aBX, M.Item.en, EN, b14, q17, q18, q19, b22, f26, f27, f28, f29, f30, f31, f32, b33]
      refine ⟨by first | exact aA9 h80 | exact (aA9 h80).2 | exact (aA9 h80).2.2, ?_⟩
      try simp +decide only [E, reduceIte, Nat.reduceAdd, Nat.reduceMul, Bool.not_true, Bool.not_false, ← List.map_take, ← List.map_drop, L, aBZ, aBX, M.Item.en, EN, b14, q17, q18, q19, b22, f26, f27, f28, f29, f30, f31, f32, b33]
      refine ⟨by (have hb := oY h82); simp [M.Item.en, List.length_append, bF, ← List.map_take, ← List.map_drop, -List.map_take, -List.map_drop] at hb ⊢ <;> omega, ?_⟩
      try simp +decide only [E, reduceIte, Nat.reduceAdd, Nat.reduceMul, Bool.not_true, Bool.not_false, ← List.map_take, ← List.map_drop, L, aBZ, aBX, M.Item.en, EN, b14, q17, q18, q19, b22, f26, f27, f28, f29, f30, f31, f32, b33]
      exact Is.mk _
    refine an (sq ?_)
    refine cu (fun s => s.t 1 = vS p1 ∧ s.t 2 = vP 2 1 0 ∧ s.t 5 = vR 7050000 u50000 ∧ s.t 6 = vI v6 ∧ s.t 9 = vI v9_L2 ∧ s.t 10 = vR 100052 (((s23.h 100052).1 + 1) + 1) ∧ s.h 2 = (1, oX 141 (M.aH.en p0)) ∧ s.h 100052 = ((((s23.h 100052).1 + 1) + 1), oW 287 4 M.Item.en (List.take v9_L2.toNat r50000)) ∧ s.h 7050000 = (u50000, .row 287 4 (aFZ 4 0 v9_L2.toNat (List.map M.Item.en r50000)) true) ∧ True) ?_
    rintro s83 ⟨f84, f85, f86, f87, f88, f89, f90, f91, f92, _⟩
    obtain ⟨x93, h94, h⟩ := bind_some h
    obtain ⟨x95, h96, h⟩ := bind_some h
    refine rn2 (aOv _ _ h94) h96 ?_
    refine an ?_
    refine cu (fun s => s.t 1 = vS p1 ∧ s.t 2 = vP 2 1 0 ∧ s.t 5 = vR 7050000 u50000 ∧ s.t 6 = vI v6 ∧ s.t 9 = vI v9_L2 ∧ s.t 10 = vR 100052 ((((s23.h 100052).1 + 1) + 1) + 1) ∧ s.h 2 = (1, oX 141 (M.aH.en p0)) ∧ s.h 100052 = (((((s23.h 100052).1 + 1) + 1) + 1), oW 287 4 M.Item.en ((List.take v9_L2.toNat r50000) ++ [x93])) ∧ s.h 7050000 = (u50000, .row 287 4 (aFZ 4 0 v9_L2.toNat (List.map M.Item.en r50000)) true) ∧ True) ?_
    rintro s97 ⟨f98, f99, f100, f101, f102, f103, f104, f105, f106, _⟩
    obtain ⟨x107, h108, h⟩ := bind_some h
    apply aAz
    · simp +decide only [E, reduceIte, Nat.reduceAdd, Nat.reduceMul, Bool.not_true, Bool.not_false, ← List.map_take, ← List.map_drop, L, aBZ, aBX, M.Item.en, EN, b14, q17, q18, q19, b22, b33, f98, f99, f100, f101, f102, f103, f104, f105, f106]
      refine ⟨by first | exact aHI (aA9 h80).1 | exact (aHI (aA9 h80).1).2 | exact (aHI (aA9 h80).1).2.2, ?_⟩
      try simp +decide only [E, reduceIte, Nat.reduceAdd, Nat.reduceMul, Bool.not_true, Bool.not_false, ← List.map_take, ← List.map_drop, L, aBZ, aBX, M.Item.en, EN, b14, q17, q18, q19, b22, b33, f98, f99, f100, f101, f102, f103, f104, f105, f106]
      refine ⟨by (have hb := oY h108); simp [M.Item.en, List.length_append, bF, ← List.map_take, ← List.map_drop, -List.map_take, -List.map_drop] at hb ⊢ <;> omega, ?_⟩
      try simp +decide only [E, reduceIte, Nat.reduceAdd, Nat.reduceMul, Bool.not_true, Bool.not_false, ← List.map_take, ← List.map_drop, L, aBZ, aBX, M.Item.en, EN, b14, q17, q18, q19, b22, b33, f98, f99, f100, f101, f102, f103, f104, f105, f106]
      exact Is.mk _
    refine ab (an ?_)
    refine cu (fun s => s.t 1 = vS p1 ∧ s.t 2 = vP 2 1 0 ∧ s.t 5 = vR 100052 (((((s23.h 100052).1 + 1) + 1) + 1) + 1) ∧ s.t 6 = vI v6 ∧ s.h 2 = (1, oX 141 (M.aH.en p0)) ∧ s.h 100052 = ((((((s23.h 100052).1 + 1) + 1) + 1) + 1), oW 287 4 M.Item.en (((List.take v9_L2.toNat r50000) ++ [x93]) ++ (List.drop v9_L2.toNat r50000))) ∧ True) ?_
    rintro s109 ⟨f110, f111, f112, f113, f114, f115, _⟩
    refine rn ?_
    refine wV ⟨_, (Gho.aKz (i := 5) (K := 7050000) (j := 100052) (by simp +decide only [F, reduceIte, Nat.reduceAdd, Bool.not_true, Bool.not_false, EN, *, -h]; rfl) (by simp +decide only [F, reduceIte, Nat.reduceAdd, Bool.not_true, Bool.not_false, EN, *, -h]; rfl)), mL1, by omega, (IntKind.i64.wrap (v6 + 1)), (((List.take v9_L2.toNat r50000) ++ [x93]) ++ (List.drop v9_L2.toNat r50000)), ((s109.h 7050000).1 + 1), ?_, ?_, ?_, ?_, ?_, ?_, h⟩
    all_goals simp +decide only [F, reduceIte, Nat.reduceAdd, Bool.not_true, Bool.not_false, EN, *, -h]
  replace h := bH b33 h
  obtain ⟨x34, h35, h⟩ := bind_some h
  obtain ⟨q36, q37, q38⟩ := aR h35
  obtain ⟨x39, h40, h⟩ := bind_some h
  refine rd1 mixed (aPS _ _ _ _ h40) ?_
  refine an ?_
  rcases dG x39 with b41 | b41
  · replace h := bH b41 h
    refine ct (sk (an (bk (rn ?_))))
    refine ab ?_
    refine wV ⟨mL2, by omega, (IntKind.i64.wrap (v9_L2 - 1)), ?_, ?_, ?_, ?_, ?_, ?_, ?_, h⟩
    all_goals simp +decide only [F, reduceIte, Nat.reduceAdd, Bool.not_true, Bool.not_false, EN, *, -h]
  replace h := bI b41 h
  refine cf (xt (nI ?_))
  subst e25
  refine pV (zX (an (sq ?_)))
  obtain ⟨x42, h43, h⟩ := bind_some h
  obtain ⟨x44, h45, h⟩ := bind_some h
  apply aAz
  · simp +decide only [E, reduceIte, Nat.reduceAdd, Nat.reduceMul, Bool.not_true, Bool.not_false, ← List.map_take, ← List.map_drop, L, aBZ, aBX, M.Item.en, EN, b14, q17, q18, q19, b22, f26, f27, f28, f29, f30, f31, f32, b33, q36, q37, q38, b41]
    refine ⟨by first | exact aA9 h43 | exact (aA9 h43).2 | exact (aA9 h43).2.2, ?_⟩
    try simp +decide only [E, reduceIte, Nat.reduceAdd, Nat.reduceMul, Bool.not_true, Bool.not_false, ← List.map_take, ← List.map_drop, L, aBZ, aBX, M.Item.en, EN, b14, q17, q18, q19, b22, f26, f27, f28, f29, f30, f31, f32, b33, q36, q37, q38, b41]
    refine ⟨by (have hb := oY h45); simp [M.Item.en, List.length_append, bF, ← List.map_take, ← List.map_drop, -List.map_take, -List.map_drop] at hb ⊢ <;> omega, ?_⟩
    try simp +decide only [E, reduceIte, Nat.reduceAdd, Nat.reduceMul, Bool.not_true, Bool.not_false, ← List.map_take, ← List.map_drop, L, aBZ, aBX, M.Item.en, EN, b14, q17, q18, q19, b22, f26, f27, f28, f29, f30, f31, f32, b33, q36, q37, q38, b41]
    exact Is.mk _
  refine an (sq ?_)
  refine cu (fun s => s.t 1 = vS p1 ∧ s.t 2 = vP 2 1 0 ∧ s.t 5 = vR 7050000 u50000 ∧ s.t 6 = vI v6 ∧ s.t 9 = vI v9_L2 ∧ s.t 10 = vR 100052 (((s23.h 100052).1 + 1) + 1) ∧ s.h 2 = (1, oX 141 (M.aH.en p0)) ∧ s.h 100052 = ((((s23.h 100052).1 + 1) + 1), oW 287 4 M.Item.en (List.take v9_L2.toNat r50000)) ∧ s.h 7050000 = (u50000, .row 287 4 (aFZ 4 0 v9_L2.toNat (List.map M.Item.en r50000)) true) ∧ True) ?_
  rintro s46 ⟨f47, f48, f49, f50, f51, f52, f53, f54, f55, _⟩
  obtain ⟨x56, h57, h⟩ := bind_some h
  obtain ⟨x58, h59, h⟩ := bind_some h
  refine rn2 (aOv _ _ h57) h59 ?_
  refine an ?_
  refine cu (fun s => s.t 1 = vS p1 ∧ s.t 2 = vP 2 1 0 ∧ s.t 5 = vR 7050000 u50000 ∧ s.t 6 = vI v6 ∧ s.t 9 = vI v9_L2 ∧ s.t 10 = vR 100052 ((((s23.h 100052).1 + 1) + 1) + 1) ∧ s.h 2 = (1, oX 141 (M.aH.en p0)) ∧ s.h 100052 = (((((s23.h 100052).1 + 1) + 1) + 1), oW 287 4 M.Item.en ((List.take v9_L2.toNat r50000) ++ [x56])) ∧ s.h 7050000 = (u50000, .row 287 4 (aFZ 4 0 v9_L2.toNat (List.map M.Item.en r50000)) true) ∧ True) ?_
  rintro s60 ⟨f61, f62, f63, f64, f65, f66, f67, f68, f69, _⟩
  obtain ⟨x70, h71, h⟩ := bind_some h
  apply aAz
  · simp +decide only [E, reduceIte, Nat.reduceAdd, Nat.reduceMul, Bool.not_true, Bool.not_false, ← List.map_take, ← List.map_drop, L, aBZ, aBX, M.Item.en, EN, b14, q17, q18, q19, b22, b33, q36, q37, q38, b41, f61, f62, f63, f64, f65, f66, f67, f68, f69]
    refine ⟨by first | exact aHI (aA9 h43).1 | exact (aHI (aA9 h43).1).2 | exact (aHI (aA9 h43).1).2.2, ?_⟩
    try simp +decide only [E, reduceIte, Nat.reduceAdd, Nat.reduceMul, Bool.not_true, Bool.not_false, ← List.map_take, ← List.map_drop, L, aBZ, aBX, M.Item.en, EN, b14, q17, q18, q19, b22, b33, q36, q37, q38, b41, f61, f62, f63, f64, f65, f66, f67, f68, f69]
    refine ⟨by (have hb := oY h71); simp [M.Item.en, List.length_append, bF, ← List.map_take, ← List.map_drop, -List.map_take, -List.map_drop] at hb ⊢ <;> omega, ?_⟩
    try simp +decide only [E, reduceIte, Nat.reduceAdd, Nat.reduceMul, Bool.not_true, Bool.not_false, ← List.map_take, ← List.map_drop, L, aBZ, aBX, M.Item.en, EN, b14, q17, q18, q19, b22, b33, q36, q37, q38, b41, f61, f62, f63, f64, f65, f66, f67, f68, f69]
    exact Is.mk _
  refine ab (an ?_)
  refine cu (fun s => s.t 1 = vS p1 ∧ s.t 2 = vP 2 1 0 ∧ s.t 5 = vR 100052 (((((s23.h 100052).1 + 1) + 1) + 1) + 1) ∧ s.t 6 = vI v6 ∧ s.h 2 = (1, oX 141 (M.aH.en p0)) ∧ s.h 100052 = ((((((s23.h 100052).1 + 1) + 1) + 1) + 1), oW 287 4 M.Item.en (((List.take v9_L2.toNat r50000) ++ [x56]) ++ (List.drop v9_L2.toNat r50000))) ∧ True) ?_
  rintro s72 ⟨f73, f74, f75, f76, f77, f78, _⟩
  refine rn ?_
  refine wV ⟨_, (Gho.aKz (i := 5) (K := 7050000) (j := 100052) (by simp +decide only [F, reduceIte, Nat.reduceAdd, Bool.not_true, Bool.not_false, EN, *, -h]; rfl) (by simp +decide only [F, reduceIte, Nat.reduceAdd, Bool.not_true, Bool.not_false, EN, *, -h]; rfl)), mL1, by omega, (IntKind.i64.wrap (v6 + 1)), (((List.take v9_L2.toNat r50000) ++ [x56]) ++ (List.drop v9_L2.toNat r50000)), ((s72.h 7050000).1 + 1), ?_, ?_, ?_, ?_, ?_, ?_, h⟩
  all_goals simp +decide only [F, reduceIte, Nat.reduceAdd, Bool.not_true, Bool.not_false, EN, *, -h]
instance : bC 353 (type_of% @aRk) := ⟨@aRk⟩
theorem aR0 (p0 p1 r) (h : nP p0 p1 = some r) : Sc 302 [aX (M.aH.en p0), aS p1] [(true, M.Key.rs r.1), (true, M.Key.rs r.2.1), rB r.2.2] := by
 have i1 := fun (x1 : (List M.Item)) => inv fun m s => ∃ v8 : Int, (s.t 1 = vS p1 ∧ s.t 4 = vP 4 1 0 ∧ s.t 5 = vP 5 1 0 ∧ s.t 7 = vR 100015 1 ∧ s.t 8 = vI v8 ∧ s.h 4 = (1, oB 251 [cI 0, cI 0, cS (⟨#[]⟩ : ByteArray)]) ∧ s.h 5 = (1, oB 251 [cI 0, cI 0, cS (⟨#[]⟩ : ByteArray)]) ∧ s.h 100015 = (1, oW 287 4 M.Item.en x1)) ∧ iC p1 x1 m v8 = some r
 have e1 := @iC.eq_2
 unfold nP at h
 exact sgo 59 [.cell 4 251, .cell 5 251, .tmp 6] Tryz.func302
instance : bC 302 (type_of% @aR0) := ⟨@aR0⟩
end Go.Proofs.YtecmnmaaopkdfaaGreat.gen
