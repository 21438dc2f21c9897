/-
  Helper text. No conditions.
-/
import Derived.Test.YtecmnmaaopkdfaaGreatLoadPageFileTi
namespace Go.Proofs.YtecmnmaaopkdfaaGreat.gen
open Go Go.Sh
set_option linter.unusedVariables false
set_option linter.unusedSimpArgs false
set_option maxRecDepth 20000
set_option maxHeartbeats 4000000
theorem aUd (p0 r) (h : pR p0 = some r) : Sc 277 [aX (M.Response.en p0)] [(true, M.Response.rs r)] := by
 unfold pR at h
 exact sgo 11 [.cell 2 110] Tryz.func277
instance : bC 277 (type_of% @aUd) := ⟨@aUd⟩
theorem aTJ (p0 r) (h : xM p0 = some r) : Sc 294 [aX (M.Cache.en p0)] [(true, M.Cache.rs r)] := by
 have i1 := aKy [.b 3 1 7050000 352 7] fun m s => ∃ v4 : Int, ∃ r50000 : List M.Cached, ∃ u50000 : Nat, (s.t 1 = vP 1 1 0 ∧ s.t 2 = vP 2 1 0 ∧ s.t 3 = vP 3 1 0 ∧ s.t 4 = vI v4 ∧ s.h 1 = (1, oX 342 (M.Cache.en p0)) ∧ s.h 2 = (1, oB 342 [cI 0, .nil]) ∧ s.h 3 = (1, oB 342 [cI p0.Version, .row 7050000 u50000]) ∧ s.h 7050000 = (u50000, oW 352 7 M.Cached.en r50000)) ∧ iT p0 m v4 r50000 = some r
 have e1 := @iT.eq_2
 unfold xM at h
 exact sgo 36 [.cell 2 342] Tryz.func294
instance : bC 294 (type_of% @aTJ) := ⟨@aTJ⟩
theorem aUZ (p0 r) (h : yM p0 = some r) : Sc 227 [aX (M.aP.en p0)] [(true, M.aP.rs r)] := by
 have i1 := aKy [.b 3 0 7050000 342 2] fun m s => ∃ v4 : Int, ∃ r50000 : List M.Cache, ∃ u50000 : Nat, (s.t 1 = vP 1 1 0 ∧ s.t 2 = vP 2 1 0 ∧ s.t 3 = vP 3 1 0 ∧ s.t 4 = vI v4 ∧ s.h 1 = (1, oX 197 (M.aP.en p0)) ∧ s.h 2 = (1, oB 197 [.nil]) ∧ s.h 3 = (1, oB 197 [.row 7050000 u50000]) ∧ s.h 7050000 = (u50000, oW 342 2 M.Cache.en r50000)) ∧ jX p0 m v4 r50000 = some r
 have e1 := @jX.eq_2
 unfold yM at h
 exact sgo 25 [.cell 2 197] Tryz.func227
instance : bC 227 (type_of% @aUZ) := ⟨@aUZ⟩
theorem aU9 (p0 r) (h : aBD p0 = some r) : Sc 297 [aX (M.aU.en p0)] [(true, M.aU.rs r)] := by
 unfold aBD at h
 exact sgo 8 [.cell 2 285] Tryz.func297
instance : bC 297 (type_of% @aU9) := ⟨@aU9⟩
theorem aP8 (p0 r) (h : yF p0 = some r) : Sc 231 [aX (M.Item.en p0)] [(true, M.Item.rs r)] := by
 unfold yF at h
 exact sgo 9 [.cell 2 287] Tryz.func231
instance : bC 231 (type_of% @aP8) := ⟨@aP8⟩
theorem aRz (p0 r) (h : sG p0 = some r) : Sc 167 [aX (M.aG.en p0)] [(true, M.aG.rs r)] := by
 have i1 := aKy [.b 3 1 7050000 287 4] fun m s => ∃ v4 : Int, ∃ r50000 : List M.Item, ∃ u50000 : Nat, (s.t 1 = vP 1 1 0 ∧ s.t 2 = vP 2 1 0 ∧ s.t 3 = vP 3 1 0 ∧ s.t 4 = vI v4 ∧ s.h 1 = (1, oX 141 (M.aG.en p0)) ∧ s.h 2 = (1, oB 141 [cS (⟨#[]⟩ : ByteArray), .nil, cI 0]) ∧ s.h 3 = (1, oB 141 [cS p0.Name, .row 7050000 u50000, cI p0.Auto]) ∧ s.h 7050000 = (u50000, oW 287 4 M.Item.en r50000)) ∧ lD p0 m v4 r50000 = some r
 have e1 := @lD.eq_2
 unfold sG at h
 exact sgo 29 [.cell 2 141] Tryz.func167
instance : bC 167 (type_of% @aRz) := ⟨@aRz⟩
theorem aRQ (p0 r) (h : aA8 p0 = some r) : Sc 295 [aX (M.Database.en p0)] [(true, M.Database.rs r)] := by
 have i1 := aKy [.b 3 2 7050000 141 3] fun m s => ∃ v4 : Int, ∃ r50000 : List M.aG, ∃ u50000 : Nat, (s.t 1 = vP 1 1 0 ∧ s.t 2 = vP 2 1 0 ∧ s.t 3 = vP 3 1 0 ∧ s.t 4 = vI v4 ∧ s.h 1 = (1, oX 201 (M.Database.en p0)) ∧ s.h 2 = (1, oB 201 [cS (⟨#[]⟩ : ByteArray), cI 0, .nil, .nil]) ∧ s.h 3 = (1, oB 201 [cS p0.Name, cI p0.Version, .row 7050000 u50000, .row 100009 2]) ∧ s.h 100009 = (2, oW 345 2 M.aA.en p0.Unique) ∧ s.h 7050000 = (u50000, oW 141 3 M.aG.en r50000)) ∧ lK p0 m v4 r50000 = some r
 have e1 := @lK.eq_2
 unfold aA8 at h
 exact sgo 33 [.cell 2 201] Tryz.func295
instance : bC 295 (type_of% @aRQ) := ⟨@aRQ⟩
theorem aRA (p0 r) (h : zY p0 = some r) : Sc 228 [aX (M.bF.en p0)] [(true, M.bF.rs r)] := by
 unfold zY at h
 exact sgo 13 [.cell 2 203] Tryz.func228
instance : bC 228 (type_of% @aRA) := ⟨@aRA⟩
theorem aSm (p0 r) (h : aAB p0 = some r) : Sc 351 [aX (M.aV.en p0)] [(true, M.aV.rs r)] := by
 unfold aAB at h
 exact sgo 11 [.cell 2 205] Tryz.func351
instance : bC 351 (type_of% @aSm) := ⟨@aSm⟩
theorem aUK (p0 r) (h : aAE p0 = some r) : Sc 296 [aX (M.Sync.en p0)] [(true, M.Sync.rs r)] := by
 unfold aAE at h
 exact sgo 10 [.cell 2 207] Tryz.func296
instance : bC 296 (type_of% @aUK) := ⟨@aUK⟩
theorem aUo (p0 r) (h : zK p0 = some r) : Sc 229 [aX (M.aC.en p0)] [(true, M.aC.rs r)] := by
 unfold zK at h
 exact sgo 12 [.cell 2 209] Tryz.func229
instance : bC 229 (type_of% @aUo) := ⟨@aUo⟩
theorem aTC (p0 r) (h : zP p0 = some r) : Sc 165 [aX (M.aE.en p0)] [(true, M.aE.rs r)] := by
 unfold zP at h
 exact sgo 18 [.cell 2 211] Tryz.func165
instance : bC 165 (type_of% @aTC) := ⟨@aTC⟩
theorem c76 (p0 r) (h : yU p0 = some r) : Sc 76 [aX (M.aK.en p0)] [(true, M.aK.rs r)] := by
 have i1 := aKy [.b 3 0 7050000 211 24] fun m s => ∃ v4 : Int, ∃ r50000 : List M.aE, ∃ u50000 : Nat, (s.t 1 = vP 1 1 0 ∧ s.t 2 = vP 2 1 0 ∧ s.t 3 = vP 3 1 0 ∧ s.t 4 = vI v4 ∧ s.h 1 = (1, oX 39 (M.aK.en p0)) ∧ s.h 2 = (1, oB 39 [.nil]) ∧ s.h 3 = (1, oB 39 [.row 7050000 u50000]) ∧ s.h 7050000 = (u50000, oW 211 24 M.aE.en r50000)) ∧ jY p0 m v4 r50000 = some r
 have e1 := @jY.eq_2
 unfold yU at h
 exact sgo 25 [.cell 2 39] Tryz.func76
instance : bC 76 (type_of% @c76) := ⟨@c76⟩
theorem aSL (p0 r) (h : uA p0 = some r) : Sc 230 [aL M.Instr.en p0] [rW 282 4 M.Instr.en r] := by
 unfold uA at h
 exact sgo 6 [.tmp 2] Tryz.func230
instance : bC 230 (type_of% @aSL) := ⟨@aSL⟩
theorem aSS (p0 r) (h : aAD p0 = some r) : Sc 166 [aX (M.Machine.en p0)] [(true, M.Machine.rs r)] := by
 unfold aAD at h
 exact sgo 15 [.cell 2 102] Tryz.func166
instance : bC 166 (type_of% @aSS) := ⟨@aSS⟩
theorem c77 (p0 r) (h : iS p0 = some r) : Sc 77 [aX (M.bG.en p0)] [(true, M.bG.rs r)] := by
 unfold iS at h
 exact sgo 15 [.cell 2 104] Tryz.func77
instance : bC 77 (type_of% @c77) := ⟨@c77⟩
theorem c78 (p0 r) (h : vG p0 = some r) : Sc 78 [aX (M.aR.en p0)] [(true, M.aR.rs r)] := by
 unfold vG at h
 exact sgo 8 [.cell 2 43] Tryz.func78
instance : bC 78 (type_of% @c78) := ⟨@c78⟩
theorem c79 (p0 r) (h : vJ p0 = some r) : Sc 79 [aX (M.Channel.en p0)] [(true, M.Channel.rs r)] := by
 unfold vJ at h
 exact sgo 8 [.cell 2 46] Tryz.func79
instance : bC 79 (type_of% @c79) := ⟨@c79⟩
theorem c80 (p0 r) (h : yJ p0 = some r) : Sc 80 [aX (M.Site.en p0)] [(true, M.Site.rs r)] := by
 unfold yJ at h
 exact sgo 11 [.cell 2 75] Tryz.func80
instance : bC 80 (type_of% @c80) := ⟨@c80⟩
theorem c81 (p0 r) (h : aAF p0 = some r) : Sc 81 [aX (M.Server.en p0)] [(true, M.Server.rs r)] := by
 unfold aAF at h
 exact sgo 15 [.cell 2 145] Tryz.func81
instance : bC 81 (type_of% @c81) := ⟨@c81⟩
theorem c26 (p0 r) (h : yP p0 = some r) : Sc 26 [aX (M.World.en p0)] [(true, M.World.rs r)] := by
 have i1 := fun (x1 : M.aK) => inv fun m s => ∃ v4 : Int, ∃ r12 : List M.bG, ∃ u12 : Nat, (s.t 1 = vP 1 1 0 ∧ s.t 2 = vP 2 1 0 ∧ s.t 3 = vP 3 1 0 ∧ s.t 4 = vI v4 ∧ s.h 1 = (1, oX 50 (M.World.en p0)) ∧ s.h 2 = (1, oB 50 [cI 0, cB false, cI 0, .nil, .nil, cI 0, .nil, .nil, .nil, .nil]) ∧ s.h 3 = (1, oB 50 [cI p0.Now, cB p0.Online, cI p0.Device, .row 100010 1, .row 100012 u12, cI p0.NextPage, cL M.cF.en p0.Locks.Locks, cL M.fH.en p0.Channel.Mails, cL M.Site.en p0.Sites, cL M.Server.en p0.Servers]) ∧ s.h 100010 = (1, oW 211 24 M.aE.en x1.Buckets) ∧ s.h 100012 = (u12, oW 104 11 M.bG.en r12)) ∧ iR p0 x1 m v4 r12 = some r
 have e1 := @iR.eq_2
 have i2 := fun (x1 : M.aK) (r12 : List M.bG) (x42 : M.aR) (x44 : M.Channel) (s12 : St) (u12 : Nat) => inv fun m s => ∃ v5 : Int, ∃ r40 : List M.Site, ∃ u40 : Nat, (s.t 1 = vP 1 1 0 ∧ s.t 2 = vP 2 1 0 ∧ s.t 3 = vP 3 1 0 ∧ s.t 5 = vI v5 ∧ s.h 1 = (1, oX 50 (M.World.en p0)) ∧ s.h 2 = (1, oB 50 [cI 0, cB false, cI 0, .nil, .nil, cI 0, .nil, .nil, .nil, .nil]) ∧ s.h 3 = (1, oB 50 [cI p0.Now, cB p0.Online, cI p0.Device, .row 100010 1, .row 100012 u12, cI p0.NextPage, .row 100034 ((s12.h 100034).1 + 1), .row 100038 ((s12.h 100038).1 + 1), .row 100040 u40, cL M.Server.en p0.Servers]) ∧ s.h 100010 = (1, oW 211 24 M.aE.en x1.Buckets) ∧ s.h 100012 = (u12, oW 104 11 M.bG.en r12) ∧ s.h 100034 = (((s12.h 100034).1 + 1), oW 186 4 M.cF.en x42.Locks) ∧ s.h 100038 = (((s12.h 100038).1 + 1), oW 183 3 M.fH.en x44.Mails) ∧ s.h 100040 = (u40, oW 75 4 M.Site.en r40)) ∧ gK p0 x1 r12 x42 x44 m v5 r40 = some r
 have e2 := @gK.eq_2
 have i3 := fun (x1 : M.aK) (r12 : List M.bG) (x42 : M.aR) (x44 : M.Channel) (r40 : List M.Site) (s12 : St) (u12 : Nat) (u40 : Nat) => inv fun m s => ∃ v6 : Int, ∃ r60 : List M.Server, ∃ u60 : Nat, (s.t 1 = vP 1 1 0 ∧ s.t 2 = vP 2 1 0 ∧ s.t 3 = vP 3 1 0 ∧ s.t 6 = vI v6 ∧ s.h 1 = (1, oX 50 (M.World.en p0)) ∧ s.h 2 = (1, oB 50 [cI 0, cB false, cI 0, .nil, .nil, cI 0, .nil, .nil, .nil, .nil]) ∧ s.h 3 = (1, oB 50 [cI p0.Now, cB p0.Online, cI p0.Device, .row 100010 1, .row 100012 u12, cI p0.NextPage, .row 100034 ((s12.h 100034).1 + 1), .row 100038 ((s12.h 100038).1 + 1), .row 100040 u40, .row 100060 u60]) ∧ s.h 100010 = (1, oW 211 24 M.aE.en x1.Buckets) ∧ s.h 100012 = (u12, oW 104 11 M.bG.en r12) ∧ s.h 100034 = (((s12.h 100034).1 + 1), oW 186 4 M.cF.en x42.Locks) ∧ s.h 100038 = (((s12.h 100038).1 + 1), oW 183 3 M.fH.en x44.Mails) ∧ s.h 100040 = (u40, oW 75 4 M.Site.en r40) ∧ s.h 100060 = (u60, oW 145 5 M.Server.en r60)) ∧ gG p0 x1 r12 x42 x44 r40 m v6 r60 = some r
 have e3 := @gG.eq_2
 unfold yP at h
 exact sgo 81 [.cell 2 50] Tryz.func26
instance : bC 26 (type_of% @c26) := ⟨@c26⟩
theorem aSX (p0 p1 r) (h : zX p0 p1 = some r) : Sc 138 [aL M.bG.en p0, aI p1] [rI r] := by
 have i1 := inv fun m s => ∃ v5 : Int, (s.t 0 = vL M.bG.en p0 ∧ s.t 1 = vI p1 ∧ s.t 5 = vI v5) ∧ jO p0 p1 m v5 = some r
 have e1 := @jO.eq_2
 unfold zX at h
 exact sgo 20 [.tmp 4] Tryz.func138
instance : bC 138 (type_of% @aSX) := ⟨@aSX⟩
theorem c58 (p0 p1 r) (h : tM p0 p1 = some r) : Sc 58 [aX (M.World.en p0), aI p1] [rI r] := by
 unfold tM at h
 exact sgo 9 [.tmp 4] Tryz.func58
instance : bC 58 (type_of% @c58) := ⟨@c58⟩
theorem c87 (p0 p1 p2 r) (h : bH p0 p1 p2 = some r) : Sc 87 [aI p0, aI p1, aI p2] [rB r] := by
 unfold bH at h
 exact sgo 15 [.tmp 6] Tryz.func87
instance : bC 87 (type_of% @c87) := ⟨@c87⟩
theorem aQM (p0 r) (h : cJ p0 = some r) : Sc 168 [aS p0] [rB r] := by
 have i1 := inv fun m s => ∃ v3 : Int, (s.t 0 = vS p0 ∧ s.t 3 = vI v3) ∧ jD p0 m v3 = some r
 have e1 := @jD.eq_2
 unfold cJ at h
 exact sgo 23 [.tmp 2] Tryz.func168
instance : bC 168 (type_of% @aQM) := ⟨@aQM⟩
theorem c83 (p0 r) (h : sQ p0 = some r) : Sc 83 [aX (M.Site.en p0)] [rB r] := by
 have i1 := inv fun m s => ∃ v3 : Int, (s.t 1 = vP 1 1 0 ∧ s.t 3 = vI v3 ∧ s.h 1 = (1, oX 75 (M.Site.en p0))) ∧ hY p0 m v3 = some r
 have e1 := @hY.eq_2
 unfold sQ at h
 exact sgo 50 [.tmp 2] Tryz.func83
instance : bC 83 (type_of% @c83) := ⟨@c83⟩
theorem c82 (r) (h : rY = some r) : Sc 82 [] [rW 9 1 enS r] := by
 unfold rY at h
 exact sgo 2 [.tmp 0] Tryz.func82
instance : bC 82 (type_of% @c82) := ⟨@c82⟩
theorem aT1 (p0 r) (h : xY p0 = some r) : Sc 298 [aS p0] [rB r] := by
 have i1 := inv fun m s => ∃ v3 : Int, (s.t 0 = vS p0 ∧ s.t 3 = vI v3) ∧ gE p0 m v3 = some r
 have e1 := @gE.eq_2
 unfold xY at h
 exact sgo 35 [.tmp 2] Tryz.func298
instance : bC 298 (type_of% @aT1) := ⟨@aT1⟩
theorem aQK (p0 r) (h : pD p0 = some r) : Sc 232 [aX (M.Key.en p0)] [rB r] := by
 unfold pD at h
 exact sgo 36 [.tmp 2] Tryz.func232
instance : bC 232 (type_of% @aQK) := ⟨@aQK⟩
theorem aUq (p0 r) (h : jB p0 = some r) : Sc 169 [aX (M.aW.en p0)] [rB r] := by
 unfold jB at h
 exact sgo 26 [.tmp 2] Tryz.func169
instance : bC 169 (type_of% @aUq) := ⟨@aUq⟩
theorem aSI (p0 r) (h : qN p0 = some r) : Sc 233 [aX (M.aU.en p0)] [rB r] := by
 have i1 := inv fun m s => ∃ v3 : Int, (s.t 1 = vP 1 1 0 ∧ s.t 3 = vI v3 ∧ s.h 1 = (1, oX 285 (M.aU.en p0))) ∧ fT p0 m v3 = some r
 have e1 := @fT.eq_2
 unfold qN at h
 exact sgo 53 [.tmp 2] Tryz.func233
instance : bC 233 (type_of% @aSI) := ⟨@aSI⟩
theorem aSD (p0 p1 r) (h : yA p0 p1 = some r) : Sc 299 [aB p0, aB p1] [rI r] := by
 unfold yA at h
 exact sgo 7 [.tmp 4] Tryz.func299
instance : bC 299 (type_of% @aSD) := ⟨@aSD⟩
theorem aTt (p0 p1 r) (h : lA p0 p1 = some r) : Sc 234 [aX (M.Key.en p0), aX (M.Key.en p1)] [rI r] := by
 unfold lA at h
 exact sgo 46 [.tmp 4] Tryz.func234
instance : bC 234 (type_of% @aTt) := ⟨@aTt⟩
theorem aTY (p0 r) (h : pO p0 = some r) : Sc 170 [aX (M.aG.en p0)] [rB r] := by
 have i1 := inv fun m s => ∃ v3 : Int, (s.t 1 = vP 1 1 0 ∧ s.t 3 = vI v3 ∧ s.h 1 = (1, oX 141 (M.aG.en p0))) ∧ gQ p0 m v3 = some r
 have e1 := @gQ.eq_2
 unfold pO at h
 exact sgo 64 [.tmp 2] Tryz.func170
instance : bC 170 (type_of% @aTY) := ⟨@aTY⟩
theorem c84 (p0 r) (h : xC p0 = some r) : Sc 84 [aX (M.Server.en p0)] [rB r] := by
 have i1 := inv fun m s => ∃ v3 : Int, (s.t 1 = vP 1 1 0 ∧ s.t 3 = vI v3 ∧ s.h 1 = (1, oX 145 (M.Server.en p0))) ∧ fS p0 m v3 = some r
 have e1 := @fS.eq_2
 have i2 := inv fun m s => ∃ v4 : Int, (s.t 1 = vP 1 1 0 ∧ s.t 4 = vI v4 ∧ s.h 1 = (1, oX 145 (M.Server.en p0))) ∧ hH p0 m v4 = some r
 have e2 := @hH.eq_2
 unfold xC at h
 exact sgo 79 [.tmp 2] Tryz.func84
instance : bC 84 (type_of% @c84) := ⟨@c84⟩
theorem c85 (p0 r) (h : sI p0 = some r) : Sc 85 [aX (M.bG.en p0)] [rB r] := by
 have i1 := inv fun m s => ∃ v3 : Int, (s.t 1 = vP 1 1 0 ∧ s.t 3 = vI v3 ∧ s.h 1 = (1, oX 104 (M.bG.en p0))) ∧ lF p0 m v3 = some r
 have e1 := @lF.eq_2
 unfold sI at h
 exact sgo 54 [.tmp 2] Tryz.func85
instance : bC 85 (type_of% @c85) := ⟨@c85⟩
theorem c86 (p0 p1 p2 r) (h : jL p0 p1 p2 = some r) : Sc 86 [aX (M.aK.en p0), aS p1, aS p2] [rI r] := by
 have i1 := inv fun m s => ∃ v7 : Int, (s.t 1 = vS p1 ∧ s.t 2 = vS p2 ∧ s.t 3 = vP 3 1 0 ∧ s.t 7 = vI v7 ∧ s.h 3 = (1, oX 39 (M.aK.en p0))) ∧ fJ p0 p1 p2 m v7 = some r
 have e1 := @fJ.eq_2
 unfold jL at h
 exact sgo 34 [.tmp 6] Tryz.func86
instance : bC 86 (type_of% @c86) := ⟨@c86⟩
theorem aST (p0 r) (h : iH p0 = some r) : Sc 235 [aX (M.Registration.en p0)] [rB r] := by
  unfold iH at h
  simp only [EN]
  refine sgn 52 [.tmp 2] Tryz.func235 fun base wd => ?_
  refine sq (rn ?_)
  refine an (sq (rn ?_))
  refine an (sq (rn ?_))
  refine an (sq (sq ?_))
  refine cu (fun s => s.t 1 = vP 1 1 0 ∧ s.t 3 = vI 0 ∧ s.t 4 = vR 100012 1 ∧ s.h 1 = (1, oX 194 (M.Registration.en p0)) ∧ s.h 100012 = (1, oW 3 1 enI ([p0.Active, p0.Waiting, p0.Installing])) ∧ True) ?_
  rintro s1 ⟨f2, f3, f4, f5, f6, _⟩
  refine rn ?_
  refine an (bk ?_)
  refine lR (fun m s => ∃ v3 : Int, ∃ v5 : Int, s.t 1 = vP 1 1 0 ∧ s.t 3 = vI v3 ∧ s.t 4 = vR 100012 1 ∧ s.t 5 = vI v5 ∧ s.h 1 = (1, oX 194 (M.Registration.en p0)) ∧ s.h 100012 = (1, oW 3 1 enI ([p0.Active, p0.Waiting, p0.Installing])) ∧ bN p0 m v3 v5 = some r) fuel ?_ ?_
  · refine ⟨0, 0, ?_, ?_, ?_, ?_, ?_, ?_, h⟩
    all_goals simp +decide only [F, reduceIte, Nat.reduceAdd, Bool.not_true, Bool.not_false, EN, *, -h]
  rintro mL1 s7 ⟨v3, v5, f8, f9, f10, f11, f12, f13, h⟩
  rcases mL1 with _ | mL1
  · exact absurd h (by simp [bN])
  simp only [bN] at h
  refine sq (sq (rn ?_))
  refine an ?_
  rcases aBO (decide (v5 < ((3 : Nat) : Int))) with b14 | b14
  · replace h := bI b14 h
    refine cf (xt (nE (pT (aAS (an (sq ?_))))))
    obtain ⟨x25, h26, h⟩ := bind_some h
    refine rn1 (aQM _ _ h26) ?_
    refine an (rt ?_)
    cases h
    simp [Ret, TB, EN, *]
  replace h := bJ b14 h
  refine ct (sk (an (sq (bk (sq (sq ?_))))))
  obtain ⟨x15, h16, h⟩ := bind_some h
  obtain ⟨q17, q18, q19⟩ := aT h16
  have q17m := congrArg (Option.map enI) (show ([p0.Active, p0.Waiting, p0.Installing])[v5.toNat]? = some x15 by assumption)
  simp only [← List.getElem?_map, List.map_cons, List.map_nil, Option.map_some, EN] at q17m
  simp only [List.length_cons, List.length_nil, Nat.reduceAdd] at q19
  obtain ⟨x20, h21, h⟩ := bind_some h
  rcases dH (!x20) with b22 | b22
  · replace h := bJ b22 h
    refine rn1 (c87 _ _ _ _ h21) ?_
    refine an (ct (sq (rn ?_)))
    refine an (rt ?_)
    cases h
    simp [Ret, TB, EN, *]
  replace h := bI b22 h
  rcases aBO (x15 != 0) with b23 | b23
  · replace h := bI b23 h
    refine rn1 (c87 _ _ _ _ h21) ?_
    refine an (cf (sk (an (sq (rn ?_)))))
    refine an (cf (sk (ab (an (rn ?_)))))
    refine xX ⟨mL1, by omega, v3, (IntKind.i64.wrap (v5 + 1)), ?_, ?_, ?_, ?_, ?_, ?_, h⟩
    all_goals simp +decide only [F, reduceIte, Nat.reduceAdd, Bool.not_true, Bool.not_false, EN, *, -h]
  replace h := bJ b23 h
  refine rn1 (c87 _ _ _ _ h21) ?_
  refine an ?_
  rcases dH (decide (x15 ≤ v3)) with b24 | b24
  · replace h := bJ b24 h
    refine ct (sq (rn ?_))
    refine an (rt ?_)
    cases h
    simp [Ret, TB, EN, *]
  replace h := bI b24 h
  refine cf (sk (an (sq (rn ?_))))
  refine an (ct (rn ?_))
  refine ab (an (rn ?_))
  refine xX ⟨mL1, by omega, x15, (IntKind.i64.wrap (v5 + 1)), ?_, ?_, ?_, ?_, ?_, ?_, h⟩
  all_goals simp +decide only [F, reduceIte, Nat.reduceAdd, Bool.not_true, Bool.not_false, EN, *, -h]
instance : bC 235 (type_of% @aST) := ⟨@aST⟩
theorem aVK (p0 r) (h : rC p0 = some r) : Sc 352 [aX (M.Response.en p0)] [rB r] := by
 unfold rC at h
 exact sgo 22 [.tmp 2] Tryz.func352
instance : bC 352 (type_of% @aVK) := ⟨@aVK⟩
theorem aUx (p0 r) (h : mD p0 = some r) : Sc 300 [aL M.Cached.en p0] [rB r] := by
 have i1 := inv fun m s => ∃ v3 : Int, (s.t 0 = vL M.Cached.en p0 ∧ s.t 3 = vI v3) ∧ eK p0 m v3 = some r
 have e1 := @eK.eq_2
 have i2 := fun (v3 : Int) (x5 : M.Cached) (k20 : Int → Option Bool) => inv fun m s => ∃ v4_L2 : Int, (s.t 0 = vL M.Cached.en p0 ∧ s.t 3 = vI v3 ∧ s.t 4 = vI v4_L2) ∧ fI p0 v3 x5 k20 m v4_L2 = some r
 have e2 := @fI.eq_2
 unfold mD at h
 exact sgo 68 [.tmp 2] Tryz.func300
instance : bC 300 (type_of% @aUx) := ⟨@aUx⟩
theorem aRG (p0 r) (h : qW p0 = some r) : Sc 236 [aX (M.aP.en p0)] [rB r] := by
 have i1 := inv fun m s => ∃ v3 : Int, (s.t 1 = vP 1 1 0 ∧ s.t 3 = vI v3 ∧ s.h 1 = (1, oX 197 (M.aP.en p0))) ∧ eN p0 m v3 = some r
 have e1 := @eN.eq_2
 unfold qW at h
 exact sgo 53 [.tmp 2] Tryz.func236
instance : bC 236 (type_of% @aRG) := ⟨@aRG⟩
theorem aTN (p0 p1 r) (h : tH p0 p1 = some r) : Sc 301 [aX (M.Database.en p0), aS p1] [rI r] := by
 have i1 := inv fun m s => ∃ v5 : Int, (s.t 1 = vS p1 ∧ s.t 2 = vP 2 1 0 ∧ s.t 5 = vI v5 ∧ s.h 2 = (1, oX 201 (M.Database.en p0))) ∧ iF p0 p1 m v5 = some r
 have e1 := @iF.eq_2
 unfold tH at h
 exact sgo 22 [.tmp 4] Tryz.func301
instance : bC 301 (type_of% @aTN) := ⟨@aTN⟩
theorem aQP (p0 p1 r) (h : kI p0 p1 = some r) : Sc 354 [aX (M.aU.en p0), aS p1] [rI r.1, rB r.2] := by
 have i1 := inv fun m s => ∃ v6 : Int, (s.t 1 = vS p1 ∧ s.t 2 = vP 2 1 0 ∧ s.t 6 = vI v6 ∧ s.h 2 = (1, oX 285 (M.aU.en p0))) ∧ kK p0 p1 m v6 = some r
 have e1 := @kK.eq_2
 unfold kI at h
 exact sgo 28 [.tmp 4, .tmp 5] Tryz.func354
instance : bC 354 (type_of% @aQP) := ⟨@aQP⟩
theorem aQr (p0 p1 p2 r) (h : aAa p0 p1 p2 = some r) : Sc 387 [aX (M.Item.en p0), aX (M.Item.en p1), aS p2] [rB r] := by
 unfold aAa at h
 exact sgo 41 [.tmp 6] Tryz.func387
instance : bC 387 (type_of% @aQr) := ⟨@aQr⟩
theorem aVB (p0 p1 r) (h : zD p0 p1 = some r) : Sc 353 [aX (M.aG.en p0), aS p1] [rW 287 4 M.Item.en r] := by
  unfold zD at h
  simp only [EN]
  refine sgn 72 [.tmp 4] Tryz.func353 fun base wd => ?_
  refine sq (rn ?_)
  refine an (sq (rn ?_))
  refine an (sq (sq ?_))
  refine cu (fun s => s.t 1 = vS p1 ∧ s.t 2 = vP 2 1 0 ∧ s.t 5 = vR 100011 1 ∧ s.h 2 = (1, oX 141 (M.aG.en p0)) ∧ s.h 100011 = (1, oW 287 4 M.Item.en ([] : List M.Item)) ∧ True) ?_
  rintro s1 ⟨f2, f3, f4, f5, f6, _⟩
  refine rn ?_
  refine an (bk ?_)
  refine aN6 ((Gho.aMX (i := 5) (K := 7050000) (j := 100011) (by simp +decide only [F, reduceIte, Nat.reduceAdd, Bool.not_true, Bool.not_false, EN, *, -h]; rfl) (by simp +decide only [F, reduceIte, Nat.reduceAdd, Bool.not_true, Bool.not_false, EN, *, -h]; rfl))) ?_
  refine aKj (fun m s => ∃ v6 : Int, ∃ r50000 : List M.Item, ∃ u50000 : Nat, s.t 1 = vS p1 ∧ s.t 2 = vP 2 1 0 ∧ s.t 5 = vR 7050000 u50000 ∧ s.t 6 = vI v6 ∧ s.h 2 = (1, oX 141 (M.aG.en p0)) ∧ s.h 7050000 = (u50000, oW 287 4 M.Item.en r50000) ∧ gP p0 p1 m v6 r50000 = some r) fuel ?_ ?_
  · refine ⟨0, ([] : List M.Item), ((s1.h 7050000).1 + 1), ?_, ?_, ?_, ?_, ?_, ?_, h⟩
    all_goals simp +decide only [F, reduceIte, Nat.reduceAdd, Bool.not_true, Bool.not_false, EN, *, -h]
  rintro mL1 s7 ⟨v6, r50000, u50000, f8, f9, f10, f11, f12, f13, h⟩
  rcases mL1 with _ | mL1
  · exact absurd h (by simp [gP])
  simp only [gP] at h
  refine sq (sq (rn ?_))
  refine an ?_
  rcases aBO (decide (v6 < (List.length p0.Items : Int))) with b14 | b14
  · replace h := bI b14 h
    refine cf (xt (nE (pT (aAS (an (sq (rn ?_)))))))
    refine an (rt ?_)
    cases h
    simp [Ret, TB, EN, *]
  replace h := bJ b14 h
  refine ct (sk (an (sq (bk (sq (sq ?_))))))
  obtain ⟨x15, h16, h⟩ := bind_some h
  obtain ⟨q17, q18, q19⟩ := aT h16
  obtain ⟨x20, h21, h⟩ := bind_some h
  refine rn1 (aQP _ _ _ h21) ?_
  refine an (sq (rn ?_))
  refine an ?_
  rcases dH (!x20.2) with b22 | b22
  · replace h := bJ b22 h
    refine ct (xt (nE (aAS (an (rn ?_)))))
    refine xX ⟨_, (Gho.aMX (i := 5) (K := 7050000) (j := 7050000) (by simp +decide only [F, reduceIte, Nat.reduceAdd, Bool.not_true, Bool.not_false, EN, *, -h]; rfl) (by simp +decide only [F, reduceIte, Nat.reduceAdd, Bool.not_true, Bool.not_false, EN, *, -h]; rfl)), mL1, by omega, (IntKind.i64.wrap (v6 + 1)), r50000, (u50000 + 1), ?_, ?_, ?_, ?_, ?_, ?_, h⟩
    all_goals simp +decide only [F, reduceIte, Nat.reduceAdd, Bool.not_true, Bool.not_false, EN, *, -h]
  replace h := bI b22 h
  refine cf (sk (an (sq (rn ?_))))
  refine an (sq (bk ?_))
  obtain ⟨k24, e25, h⟩ := aQb (f := fun kk => gM p1 r50000 x15 kk fuel (List.length r50000 : Int)) h
  refine lR (fun m s => ∃ v9_L2 : Int, s.t 1 = vS p1 ∧ s.t 2 = vP 2 1 0 ∧ s.t 5 = vR 7050000 u50000 ∧ s.t 6 = vI v6 ∧ s.t 9 = vI v9_L2 ∧ s.h 2 = (1, oX 141 (M.aG.en p0)) ∧ s.h 7050000 = (u50000, oW 287 4 M.Item.en r50000) ∧ gM p1 r50000 x15 k24 m v9_L2 = some r) fuel ?_ ?_
  · refine ⟨(List.length r50000 : Int), ?_, ?_, ?_, ?_, ?_, ?_, ?_, h⟩
    all_goals simp +decide only [F, reduceIte, Nat.reduceAdd, Bool.not_true, Bool.not_false, EN, *, -h]
  rintro mL2 s23 ⟨v9_L2, f26, f27, f28, f29, f30, f31, f32, h⟩
  rcases mL2 with _ | mL2
  · exact absurd h (by simp [gM])
  simp only [gM] at h
  refine sq (sq ?_)
  rcases aBO (decide (v9_L2 > 0)) with b33 | b33
  · replace h := bI b33 h
    refine rd mixed ?_
    refine an (cf (xt (nE ?_)))
    subst e25
    refine pT (aAS (an (sq ?_)))
    obtain ⟨x79, h80, h⟩ := bind_some h
    obtain ⟨x81, h82, h⟩ := bind_some h
    apply zF
    · simp +decide only [E, reduceIte, Nat.reduceAdd, Nat.reduceMul, Bool.not_true, Bool.not_false, ← List.map_take, ← List.map_drop, L, aB7, aB6, M.Item.en, EN, b14, q17, q18, q19, b22, f26, f27, f28, f29, f30, f31, f32, b33]
      refine ⟨by first | exact aBb h80 | exact (aBb h80).2 | exact (aBb h80).2.2, ?_⟩
      try simp +decide only [E, reduceIte, Nat.reduceAdd, Nat.reduceMul, Bool.not_true, Bool.not_false, ← List.map_take, ← List.map_drop, L, aB7, aB6, M.Item.en, EN, b14, q17, q18, q19, b22, f26, f27, f28, f29, f30, f31, f32, b33]
      refine ⟨by (have hb := kD h82); simp [M.Item.en, List.length_append, bB, ← List.map_take, ← List.map_drop, -List.map_take, -List.map_drop] at hb ⊢ <;> omega, ?_⟩
      try simp +decide only [E, reduceIte, Nat.reduceAdd, Nat.reduceMul, Bool.not_true, Bool.not_false, ← List.map_take, ← List.map_drop, L, aB7, aB6, M.Item.en, EN, b14, q17, q18, q19, b22, f26, f27, f28, f29, f30, f31, f32, b33]
      exact Is.mk _
    refine an (sq ?_)
    refine cu (fun s => s.t 1 = vS p1 ∧ s.t 2 = vP 2 1 0 ∧ s.t 5 = vR 7050000 u50000 ∧ s.t 6 = vI v6 ∧ s.t 9 = vI v9_L2 ∧ s.t 10 = vR 100052 (((s23.h 100052).1 + 1) + 1) ∧ s.h 2 = (1, oX 141 (M.aG.en p0)) ∧ s.h 100052 = ((((s23.h 100052).1 + 1) + 1), oW 287 4 M.Item.en (List.take v9_L2.toNat r50000)) ∧ s.h 7050000 = (u50000, .row 287 4 (aGM 4 0 v9_L2.toNat (List.map M.Item.en r50000)) true) ∧ True) ?_
    rintro s83 ⟨f84, f85, f86, f87, f88, f89, f90, f91, f92, _⟩
    obtain ⟨x93, h94, h⟩ := bind_some h
    obtain ⟨x95, h96, h⟩ := bind_some h
    refine rn2 (aP8 _ _ h94) h96 ?_
    refine an ?_
    refine cu (fun s => s.t 1 = vS p1 ∧ s.t 2 = vP 2 1 0 ∧ s.t 5 = vR 7050000 u50000 ∧ s.t 6 = vI v6 ∧ s.t 9 = vI v9_L2 ∧ s.t 10 = vR 100052 ((((s23.h 100052).1 + 1) + 1) + 1) ∧ s.h 2 = (1, oX 141 (M.aG.en p0)) ∧ s.h 100052 = (((((s23.h 100052).1 + 1) + 1) + 1), oW 287 4 M.Item.en ((List.take v9_L2.toNat r50000) ++ [x93])) ∧ s.h 7050000 = (u50000, .row 287 4 (aGM 4 0 v9_L2.toNat (List.map M.Item.en r50000)) true) ∧ True) ?_
    rintro s97 ⟨f98, f99, f100, f101, f102, f103, f104, f105, f106, _⟩
    obtain ⟨x107, h108, h⟩ := bind_some h
    apply zF
    · simp +decide only [E, reduceIte, Nat.reduceAdd, Nat.reduceMul, Bool.not_true, Bool.not_false, ← List.map_take, ← List.map_drop, L, aB7, aB6, M.Item.en, EN, b14, q17, q18, q19, b22, b33, f98, f99, f100, f101, f102, f103, f104, f105, f106]
      refine ⟨by first | exact aIH (aBb h80).1 | exact (aIH (aBb h80).1).2 | exact (aIH (aBb h80).1).2.2, ?_⟩
      try simp +decide only [E, reduceIte, Nat.reduceAdd, Nat.reduceMul, Bool.not_true, Bool.not_false, ← List.map_take, ← List.map_drop, L, aB7, aB6, M.Item.en, EN, b14, q17, q18, q19, b22, b33, f98, f99, f100, f101, f102, f103, f104, f105, f106]
      refine ⟨by (have hb := kD h108); simp [M.Item.en, List.length_append, bB, ← List.map_take, ← List.map_drop, -List.map_take, -List.map_drop] at hb ⊢ <;> omega, ?_⟩
      try simp +decide only [E, reduceIte, Nat.reduceAdd, Nat.reduceMul, Bool.not_true, Bool.not_false, ← List.map_take, ← List.map_drop, L, aB7, aB6, M.Item.en, EN, b14, q17, q18, q19, b22, b33, f98, f99, f100, f101, f102, f103, f104, f105, f106]
      exact Is.mk _
    refine ab (an ?_)
    refine cu (fun s => s.t 1 = vS p1 ∧ s.t 2 = vP 2 1 0 ∧ s.t 5 = vR 100052 (((((s23.h 100052).1 + 1) + 1) + 1) + 1) ∧ s.t 6 = vI v6 ∧ s.h 2 = (1, oX 141 (M.aG.en p0)) ∧ s.h 100052 = ((((((s23.h 100052).1 + 1) + 1) + 1) + 1), oW 287 4 M.Item.en (((List.take v9_L2.toNat r50000) ++ [x93]) ++ (List.drop v9_L2.toNat r50000))) ∧ True) ?_
    rintro s109 ⟨f110, f111, f112, f113, f114, f115, _⟩
    refine rn ?_
    refine xX ⟨_, (Gho.aMX (i := 5) (K := 7050000) (j := 100052) (by simp +decide only [F, reduceIte, Nat.reduceAdd, Bool.not_true, Bool.not_false, EN, *, -h]; rfl) (by simp +decide only [F, reduceIte, Nat.reduceAdd, Bool.not_true, Bool.not_false, EN, *, -h]; rfl)), mL1, by omega, (IntKind.i64.wrap (v6 + 1)), (((List.take v9_L2.toNat r50000) ++ [x93]) ++ (List.drop v9_L2.toNat r50000)), ((s109.h 7050000).1 + 1), ?_, ?_, ?_, ?_, ?_, ?_, h⟩
    all_goals simp +decide only [F, reduceIte, Nat.reduceAdd, Bool.not_true, Bool.not_false, EN, *, -h]
  replace h := bJ b33 h
  obtain ⟨x34, h35, h⟩ := bind_some h
  obtain ⟨q36, q37, q38⟩ := aT h35
  obtain ⟨x39, h40, h⟩ := bind_some h
  refine rd1 mixed (aQr _ _ _ _ h40) ?_
  refine an ?_
  rcases dH x39 with b41 | b41
  · replace h := bJ b41 h
    refine ct (sk (an (bk (rn ?_))))
    refine ab ?_
    refine xX ⟨mL2, by omega, (IntKind.i64.wrap (v9_L2 - 1)), ?_, ?_, ?_, ?_, ?_, ?_, ?_, h⟩
    all_goals simp +decide only [F, reduceIte, Nat.reduceAdd, Bool.not_true, Bool.not_false, EN, *, -h]
  replace h := bI b41 h
  refine cf (xt (nE ?_))
  subst e25
  refine pT (aAS (an (sq ?_)))
  obtain ⟨x42, h43, h⟩ := bind_some h
  obtain ⟨x44, h45, h⟩ := bind_some h
  apply zF
  · simp +decide only [E, reduceIte, Nat.reduceAdd, Nat.reduceMul, Bool.not_true, Bool.not_false, ← List.map_take, ← List.map_drop, L, aB7, aB6, M.Item.en, EN, b14, q17, q18, q19, b22, f26, f27, f28, f29, f30, f31, f32, b33, q36, q37, q38, b41]
    refine ⟨by first | exact aBb h43 | exact (aBb h43).2 | exact (aBb h43).2.2, ?_⟩
    try simp +decide only [E, reduceIte, Nat.reduceAdd, Nat.reduceMul, Bool.not_true, Bool.not_false, ← List.map_take, ← List.map_drop, L, aB7, aB6, M.Item.en, EN, b14, q17, q18, q19, b22, f26, f27, f28, f29, f30, f31, f32, b33, q36, q37, q38, b41]
    refine ⟨by (have hb := kD h45); simp [M.Item.en, List.length_append, bB, ← List.map_take, ← List.map_drop, -List.map_take, -List.map_drop] at hb ⊢ <;> omega, ?_⟩
    try simp +decide only [E, reduceIte, Nat.reduceAdd, Nat.reduceMul, Bool.not_true, Bool.not_false, ← List.map_take, ← List.map_drop, L, aB7, aB6, M.Item.en, EN, b14, q17, q18, q19, b22, f26, f27, f28, f29, f30, f31, f32, b33, q36, q37, q38, b41]
    exact Is.mk _
  refine an (sq ?_)
  refine cu (fun s => s.t 1 = vS p1 ∧ s.t 2 = vP 2 1 0 ∧ s.t 5 = vR 7050000 u50000 ∧ s.t 6 = vI v6 ∧ s.t 9 = vI v9_L2 ∧ s.t 10 = vR 100052 (((s23.h 100052).1 + 1) + 1) ∧ s.h 2 = (1, oX 141 (M.aG.en p0)) ∧ s.h 100052 = ((((s23.h 100052).1 + 1) + 1), oW 287 4 M.Item.en (List.take v9_L2.toNat r50000)) ∧ s.h 7050000 = (u50000, .row 287 4 (aGM 4 0 v9_L2.toNat (List.map M.Item.en r50000)) true) ∧ True) ?_
  rintro s46 ⟨f47, f48, f49, f50, f51, f52, f53, f54, f55, _⟩
  obtain ⟨x56, h57, h⟩ := bind_some h
  obtain ⟨x58, h59, h⟩ := bind_some h
  refine rn2 (aP8 _ _ h57) h59 ?_
  refine an ?_
  refine cu (fun s => s.t 1 = vS p1 ∧ s.t 2 = vP 2 1 0 ∧ s.t 5 = vR 7050000 u50000 ∧ s.t 6 = vI v6 ∧ s.t 9 = vI v9_L2 ∧ s.t 10 = vR 100052 ((((s23.h 100052).1 + 1) + 1) + 1) ∧ s.h 2 = (1, oX 141 (M.aG.en p0)) ∧ s.h 100052 = (((((s23.h 100052).1 + 1) + 1) + 1), oW 287 4 M.Item.en ((List.take v9_L2.toNat r50000) ++ [x56])) ∧ s.h 7050000 = (u50000, .row 287 4 (aGM 4 0 v9_L2.toNat (List.map M.Item.en r50000)) true) ∧ True) ?_
  rintro s60 ⟨f61, f62, f63, f64, f65, f66, f67, f68, f69, _⟩
  obtain ⟨x70, h71, h⟩ := bind_some h
  apply zF
  · simp +decide only [E, reduceIte, Nat.reduceAdd, Nat.reduceMul, Bool.not_true, Bool.not_false, ← List.map_take, ← List.map_drop, L, aB7, aB6, M.Item.en, EN, b14, q17, q18, q19, b22, b33, q36, q37, q38, b41, f61, f62, f63, f64, f65, f66, f67, f68, f69]
    refine ⟨by first | exact aIH (aBb h43).1 | exact (aIH (aBb h43).1).2 | exact (aIH (aBb h43).1).2.2, ?_⟩
    try simp +decide only [E, reduceIte, Nat.reduceAdd, Nat.reduceMul, Bool.not_true, Bool.not_false, ← List.map_take, ← List.map_drop, L, aB7, aB6, M.Item.en, EN, b14, q17, q18, q19, b22, b33, q36, q37, q38, b41, f61, f62, f63, f64, f65, f66, f67, f68, f69]
    refine ⟨by (have hb := kD h71); simp [M.Item.en, List.length_append, bB, ← List.map_take, ← List.map_drop, -List.map_take, -List.map_drop] at hb ⊢ <;> omega, ?_⟩
    try simp +decide only [E, reduceIte, Nat.reduceAdd, Nat.reduceMul, Bool.not_true, Bool.not_false, ← List.map_take, ← List.map_drop, L, aB7, aB6, M.Item.en, EN, b14, q17, q18, q19, b22, b33, q36, q37, q38, b41, f61, f62, f63, f64, f65, f66, f67, f68, f69]
    exact Is.mk _
  refine ab (an ?_)
  refine cu (fun s => s.t 1 = vS p1 ∧ s.t 2 = vP 2 1 0 ∧ s.t 5 = vR 100052 (((((s23.h 100052).1 + 1) + 1) + 1) + 1) ∧ s.t 6 = vI v6 ∧ s.h 2 = (1, oX 141 (M.aG.en p0)) ∧ s.h 100052 = ((((((s23.h 100052).1 + 1) + 1) + 1) + 1), oW 287 4 M.Item.en (((List.take v9_L2.toNat r50000) ++ [x56]) ++ (List.drop v9_L2.toNat r50000))) ∧ True) ?_
  rintro s72 ⟨f73, f74, f75, f76, f77, f78, _⟩
  refine rn ?_
  refine xX ⟨_, (Gho.aMX (i := 5) (K := 7050000) (j := 100052) (by simp +decide only [F, reduceIte, Nat.reduceAdd, Bool.not_true, Bool.not_false, EN, *, -h]; rfl) (by simp +decide only [F, reduceIte, Nat.reduceAdd, Bool.not_true, Bool.not_false, EN, *, -h]; rfl)), mL1, by omega, (IntKind.i64.wrap (v6 + 1)), (((List.take v9_L2.toNat r50000) ++ [x56]) ++ (List.drop v9_L2.toNat r50000)), ((s72.h 7050000).1 + 1), ?_, ?_, ?_, ?_, ?_, ?_, h⟩
  all_goals simp +decide only [F, reduceIte, Nat.reduceAdd, Bool.not_true, Bool.not_false, EN, *, -h]
instance : bC 353 (type_of% @aVB) := ⟨@aVB⟩
theorem aTq (p0 p1 r) (h : oQ p0 p1 = some r) : Sc 302 [aX (M.aG.en p0), aS p1] [(true, M.Key.rs r.1), (true, M.Key.rs r.2.1), rB r.2.2] := by
 have i1 := fun (x1 : (List M.Item)) => inv fun m s => ∃ v8 : Int, (s.t 1 = vS p1 ∧ s.t 4 = vP 4 1 0 ∧ s.t 5 = vP 5 1 0 ∧ s.t 7 = vR 100015 1 ∧ s.t 8 = vI v8 ∧ s.h 4 = (1, oB 251 [cI 0, cI 0, cS (⟨#[]⟩ : ByteArray)]) ∧ s.h 5 = (1, oB 251 [cI 0, cI 0, cS (⟨#[]⟩ : ByteArray)]) ∧ s.h 100015 = (1, oW 287 4 M.Item.en x1)) ∧ iO p1 x1 m v8 = some r
 have e1 := @iO.eq_2
 unfold oQ at h
 exact sgo 59 [.cell 4 251, .cell 5 251, .tmp 6] Tryz.func302
instance : bC 302 (type_of% @aTq) := ⟨@aTq⟩
end Go.Proofs.YtecmnmaaopkdfaaGreat.gen
