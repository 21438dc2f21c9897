/-
  Helper text. No conditions.
-/
import Derived.Test.YtecmnmaaopkdfaaGreatLoadPageFileTi
namespace Go.Proofs.YtecmnmaaopkdfaaGreat.gen
open Go Go.Sh
set_option linter.unusedVariables false
set_option linter.unusedSimpArgs false
set_option maxRecDepth 20000
set_option maxHeartbeats 4000000
theorem aUE (p0 r) (h : hU p0 = some r) : Sc 315 [aL enB p0] [rW 5 1 enB r] := by
 unfold hU at h
 exact sgo 6 [.tmp 2] Tryz.func315
instance : bC 315 (type_of% @aUE) := ⟨@aUE⟩
theorem aSH (p0 r) (h : iB p0 = some r) : Sc 283 [aX (M.Response.en p0)] [(true, M.Response.rs r)] := by
 unfold iB at h
 exact sgo 8 [.cell 2 110] Tryz.func283
instance : bC 283 (type_of% @aSH) := ⟨@aSH⟩
theorem aS4 (p0 r) (h : mV p0 = some r) : Sc 250 [aX (M.aP.en p0)] [(true, M.aP.rs r)] := by
 have i1 := aKy [.b 3 0 7050100 342 2] fun m s => ∃ v13 : Int, ∃ r50100 : List M.Cache, ∃ u50100 : Nat, (s.t 2 = vP 2 1 0 ∧ s.t 3 = vP 3 1 0 ∧ s.t 11 = vL M.Cache.en p0.Caches ∧ s.t 12 = vI (List.length p0.Caches : Int) ∧ s.t 13 = vI v13 ∧ s.h 2 = (1, oB 197 [.nil]) ∧ s.h 3 = (1, oB 197 [.row 7050100 u50100]) ∧ s.h 7050100 = (u50100, oW 342 2 M.Cache.en r50100)) ∧ eA p0 m v13 r50100 = some r
 have e1 := @eA.eq_2
 have i2 := fun (v13 : Int) (r50100 : List M.Cache) (x11 : M.Cache) (k17 : Int → List M.Cached → Option M.aP) (s1 : St) (u50100 : Nat) => aKy [.b 6 1 7050000 352 7] fun m s => ∃ v23_L2 : Int, ∃ r50000_L2 : List M.Cached, ∃ u50000_L2 : Nat, (s.t 2 = vP 2 1 0 ∧ s.t 3 = vP 3 1 0 ∧ s.t 6 = vP 6 ((s1.h 6).1 + 1) 0 ∧ s.t 11 = vL M.Cache.en p0.Caches ∧ s.t 12 = vI (List.length p0.Caches : Int) ∧ s.t 13 = vI v13 ∧ s.t 21 = vL M.Cached.en x11.Entries ∧ s.t 22 = vI (List.length x11.Entries : Int) ∧ s.t 23 = vI v23_L2 ∧ s.h 2 = (1, oB 197 [.nil]) ∧ s.h 3 = (1, oB 197 [.row 7050100 u50100]) ∧ s.h 6 = (((s1.h 6).1 + 1), oB 342 [cI x11.Version, .row 7050000 u50000_L2]) ∧ s.h 7050000 = (u50000_L2, oW 352 7 M.Cached.en r50000_L2) ∧ s.h 7050100 = (u50100, oW 342 2 M.Cache.en r50100)) ∧ fM x11 k17 m v23_L2 r50000_L2 = some r
 have e2 := @fM.eq_2
 unfold mV at h
 exact sgo 46 [.cell 2 197] Tryz.func250
instance : bC 250 (type_of% @aS4) := ⟨@aS4⟩
theorem aRH (p0 r) (h : rH p0 = some r) : Sc 317 [aX (M.aU.en p0)] [(true, M.aU.rs r)] := by
 unfold rH at h
 exact sgo 8 [.cell 2 285] Tryz.func317
instance : bC 317 (type_of% @aRH) := ⟨@aRH⟩
theorem aP9 (p0 r) (h : qF p0 = some r) : Sc 253 [aX (M.Item.en p0)] [(true, M.Item.rs r)] := by
 unfold qF at h
 exact sgo 9 [.cell 2 287] Tryz.func253
instance : bC 253 (type_of% @aP9) := ⟨@aP9⟩
theorem aVQ (p0 r) (h : lC p0 = some r) : Sc 184 [aX (M.aG.en p0)] [(true, M.aG.rs r)] := by
 have i1 := aKy [.b 3 1 7050000 287 4] fun m s => ∃ v14 : Int, ∃ r50000 : List M.Item, ∃ u50000 : Nat, (s.t 2 = vP 2 1 0 ∧ s.t 3 = vP 3 1 0 ∧ s.t 12 = vL M.Item.en p0.Items ∧ s.t 13 = vI (List.length p0.Items : Int) ∧ s.t 14 = vI v14 ∧ s.h 2 = (1, oB 141 [cS (⟨#[]⟩ : ByteArray), .nil, cI 0]) ∧ s.h 3 = (1, oB 141 [cS p0.Name, .row 7050000 u50000, cI p0.Auto]) ∧ s.h 7050000 = (u50000, oW 287 4 M.Item.en r50000)) ∧ iE p0 m v14 r50000 = some r
 have e1 := @iE.eq_2
 unfold lC at h
 exact sgo 27 [.cell 2 141] Tryz.func184
instance : bC 184 (type_of% @aVQ) := ⟨@aVQ⟩
theorem aSq (p0 r) (h : mO p0 = some r) : Sc 314 [aX (M.Database.en p0)] [(true, M.Database.rs r)] := by
 have i1 := aKy [.b 3 2 7050000 141 3] fun m s => ∃ v18 : Int, ∃ r50000 : List M.aG, ∃ u50000 : Nat, (s.t 2 = vP 2 1 0 ∧ s.t 3 = vP 3 1 0 ∧ s.t 16 = vL M.aG.en p0.Stores ∧ s.t 17 = vI (List.length p0.Stores : Int) ∧ s.t 18 = vI v18 ∧ s.h 2 = (1, oB 201 [cS (⟨#[]⟩ : ByteArray), cI 0, .nil, .nil]) ∧ s.h 3 = (1, oB 201 [cS p0.Name, cI p0.Version, .row 7050000 u50000, .row 100010 2]) ∧ s.h 100010 = (2, oW 345 2 M.aA.en p0.Unique) ∧ s.h 7050000 = (u50000, oW 141 3 M.aG.en r50000)) ∧ fL p0 m v18 r50000 = some r
 have e1 := @fL.eq_2
 unfold mO at h
 exact sgo 31 [.cell 2 201] Tryz.func314
instance : bC 314 (type_of% @aSq) := ⟨@aSq⟩
theorem aTO (p0 r) (h : wR p0 = some r) : Sc 251 [aX (M.bF.en p0)] [(true, M.bF.rs r)] := by
 unfold wR at h
 exact sgo 12 [.cell 2 203] Tryz.func251
instance : bC 251 (type_of% @aTO) := ⟨@aTO⟩
theorem aS9 (p0 r) (h : rZ p0 = some r) : Sc 364 [aX (M.aV.en p0)] [(true, M.aV.rs r)] := by
 unfold rZ at h
 exact sgo 9 [.cell 2 205] Tryz.func364
instance : bC 364 (type_of% @aS9) := ⟨@aS9⟩
theorem aRe (p0 r) (h : wO p0 = some r) : Sc 316 [aX (M.Sync.en p0)] [(true, M.Sync.rs r)] := by
 unfold wO at h
 exact sgo 8 [.cell 2 207] Tryz.func316
instance : bC 316 (type_of% @aRe) := ⟨@aRe⟩
theorem aSB (p0 r) (h : pF p0 = some r) : Sc 252 [aX (M.aC.en p0)] [(true, M.aC.rs r)] := by
 unfold pF at h
 exact sgo 12 [.cell 2 209] Tryz.func252
instance : bC 252 (type_of% @aSB) := ⟨@aSB⟩
theorem aSa (p0 r) (h : qT p0 = some r) : Sc 183 [aX (M.aE.en p0)] [(true, M.aE.rs r)] := by
 unfold qT at h
 exact sgo 16 [.cell 2 211] Tryz.func183
instance : bC 183 (type_of% @aSa) := ⟨@aSa⟩
theorem c97 (p0 r) (h : nY p0 = some r) : Sc 97 [aX (M.aK.en p0)] [(true, M.aK.rs r)] := by
 have i1 := aKy [.b 3 0 7050000 211 24] fun m s => ∃ v10 : Int, ∃ r50000 : List M.aE, ∃ u50000 : Nat, (s.t 2 = vP 2 1 0 ∧ s.t 3 = vP 3 1 0 ∧ s.t 8 = vL M.aE.en p0.Buckets ∧ s.t 9 = vI (List.length p0.Buckets : Int) ∧ s.t 10 = vI v10 ∧ s.h 2 = (1, oB 39 [.nil]) ∧ s.h 3 = (1, oB 39 [.row 7050000 u50000]) ∧ s.h 7050000 = (u50000, oW 211 24 M.aE.en r50000)) ∧ fZ p0 m v10 r50000 = some r
 have e1 := @fZ.eq_2
 unfold nY at h
 exact sgo 23 [.cell 2 39] Tryz.func97
instance : bC 97 (type_of% @c97) := ⟨@c97⟩
theorem aTc (p0 r) (h : nW p0 = some r) : Sc 217 [aX (M.Machine.en p0)] [(true, M.Machine.rs r)] := by
 unfold nW at h
 exact sgo 16 [.cell 2 102] Tryz.func217
instance : bC 217 (type_of% @aTc) := ⟨@aTc⟩
theorem aR7 (p0 r) (h : hO p0 = some r) : Sc 156 [aX (M.bG.en p0)] [(true, M.bG.rs r)] := by
 unfold hO at h
 exact sgo 13 [.cell 2 104] Tryz.func156
instance : bC 156 (type_of% @aR7) := ⟨@aR7⟩
theorem c98 (p0 r) (h : vD p0 = some r) : Sc 98 [aL M.bG.en p0] [rW 104 11 M.bG.en r] := by
 have i1 := inv fun m s => ∃ v9 : Int, ∃ r6 : List M.bG, ∃ u6 : Nat, (s.t 3 = vR 100006 u6 ∧ s.t 7 = vL M.bG.en p0 ∧ s.t 8 = vI (List.length p0 : Int) ∧ s.t 9 = vI v9 ∧ s.h 100006 = (u6, oW 104 11 M.bG.en r6)) ∧ iC p0 m v9 r6 = some r
 have e1 := @iC.eq_2
 unfold vD at h
 exact sgo 20 [.tmp 2] Tryz.func98
instance : bC 98 (type_of% @c98) := ⟨@c98⟩
theorem c99 (p0 r) (h : vA p0 = some r) : Sc 99 [aX (M.aR.en p0)] [(true, M.aR.rs r)] := by
 unfold vA at h
 exact sgo 8 [.cell 2 43] Tryz.func99
instance : bC 99 (type_of% @c99) := ⟨@c99⟩
theorem aTQ (p0 r) (h : oJ p0 = some r) : Sc 100 [aX (M.Channel.en p0)] [(true, M.Channel.rs r)] := by
 unfold oJ at h
 exact sgo 8 [.cell 2 46] Tryz.func100
instance : bC 100 (type_of% @aTQ) := ⟨@aTQ⟩
theorem aVI (p0 r) (h : wL p0 = some r) : Sc 101 [aX (M.Site.en p0)] [(true, M.Site.rs r)] := by
 unfold wL at h
 exact sgo 9 [.cell 2 75] Tryz.func101
instance : bC 101 (type_of% @aVI) := ⟨@aVI⟩
theorem aRl (p0 r) (h : qE p0 = some r) : Sc 102 [aX (M.Server.en p0)] [(true, M.Server.rs r)] := by
 unfold qE at h
 exact sgo 15 [.cell 2 145] Tryz.func102
instance : bC 102 (type_of% @aRl) := ⟨@aRl⟩
theorem c36 (p0 r) (h : tC p0 = some r) : Sc 36 [aX (M.World.en p0)] [(true, M.World.rs r)] := by
 have i1 := fun (x1 : M.aK) (x3 : (List M.bG)) (x5 : M.aR) (x7 : M.Channel) => aKy [.b 3 8 7050000 75 4] fun m s => ∃ v29 : Int, ∃ r50000 : List M.Site, ∃ u50000 : Nat, (s.t 1 = vP 1 1 0 ∧ s.t 2 = vP 2 1 0 ∧ s.t 3 = vP 3 1 0 ∧ s.t 27 = vL M.Site.en p0.Sites ∧ s.t 28 = vI (List.length p0.Sites : Int) ∧ s.t 29 = vI v29 ∧ s.h 1 = (1, oX 50 (M.World.en p0)) ∧ s.h 2 = (1, oB 50 [cI 0, cB false, cI 0, .nil, .nil, cI 0, .nil, .nil, .nil, .nil]) ∧ s.h 3 = (1, oB 50 [cI p0.Now, cB p0.Online, cI p0.Device, .row 100011 1, .row 100015 1, cI p0.NextPage, .row 100019 1, .row 100023 1, .row 7050000 u50000, cL M.Server.en p0.Servers]) ∧ s.h 100011 = (1, oW 211 24 M.aE.en x1.Buckets) ∧ s.h 100015 = (1, oW 104 11 M.bG.en x3) ∧ s.h 100019 = (1, oW 186 4 M.cF.en x5.Locks) ∧ s.h 100023 = (1, oW 183 3 M.fH.en x7.Mails) ∧ s.h 7050000 = (u50000, oW 75 4 M.Site.en r50000)) ∧ fY p0 x1 x3 x5 x7 m v29 r50000 = some r
 have e1 := @fY.eq_2
 have i2 := fun (x1 : M.aK) (x3 : (List M.bG)) (x5 : M.aR) (x7 : M.Channel) (r50000 : List M.Site) (u50000 : Nat) => aKy [.b 3 9 7050100 145 5] fun m s => ∃ v45 : Int, ∃ r50100 : List M.Server, ∃ u50100 : Nat, (s.t 2 = vP 2 1 0 ∧ s.t 3 = vP 3 1 0 ∧ s.t 43 = vL M.Server.en p0.Servers ∧ s.t 44 = vI (List.length p0.Servers : Int) ∧ s.t 45 = vI v45 ∧ s.h 2 = (1, oB 50 [cI 0, cB false, cI 0, .nil, .nil, cI 0, .nil, .nil, .nil, .nil]) ∧ s.h 3 = (1, oB 50 [cI p0.Now, cB p0.Online, cI p0.Device, .row 100011 1, .row 100015 1, cI p0.NextPage, .row 100019 1, .row 100023 1, .row 7050000 u50000, .row 7050100 u50100]) ∧ s.h 100011 = (1, oW 211 24 M.aE.en x1.Buckets) ∧ s.h 100015 = (1, oW 104 11 M.bG.en x3) ∧ s.h 100019 = (1, oW 186 4 M.cF.en x5.Locks) ∧ s.h 100023 = (1, oW 183 3 M.fH.en x7.Mails) ∧ s.h 7050000 = (u50000, oW 75 4 M.Site.en r50000) ∧ s.h 7050100 = (u50100, oW 145 5 M.Server.en r50100)) ∧ fF p0 x1 x3 x5 x7 r50000 m v45 r50100 = some r
 have e2 := @fF.eq_2
 unfold tC at h
 exact sgo 58 [.cell 2 50] Tryz.func36
instance : bC 36 (type_of% @c36) := ⟨@c36⟩
theorem aQo (p0 c0 r) (h : pE p0 c0 = some r) : Sc 142 [aX (M.bG.en p0), (false, [.ptr [.int .i64 c0]])] [rB r] := by
 unfold pE at h
 exact sgo 8 [.tmp 3] Tryz.func142
instance : bC 142 (type_of% @aQo) := ⟨@aQo⟩
theorem aQh (p0 : List M.bG) (p1 : M.bG → Option Bool) (f1_ : FuncId) (k1_ : List D) (hp1 : ∀ z0 r, p1 z0 = some r → rU Tryz.prog f1_ ((true, M.bG.en z0) ::  k1_.map fun c => (false, [c])) [(false, [.ro (.bool r)])]) (r : Int) (h : iV p0 p1 = some r) : Sc 141 [(false, [.sl (List.map M.bG.en p0)]), (false, [.fn f1_ k1_])] [rI r] := by
  unfold iV at h
  simp only [EN]
  refine sgn 19 [.tmp 4] Tryz.func141 fun base wd => ?_
  refine sq (rn ?_)
  refine an (sq (sq (rn ?_)))
  refine an (bk ?_)
  refine lR (fun m s => ∃ v8 : Int, s.t 0 = vL M.bG.en p0 ∧ s.t 1 = .v false [.dat (.fn f1_ k1_)] ∧ s.t 7 = vI (List.length p0 : Int) ∧ s.t 8 = vI v8 ∧ cE p0 p1 m v8 = some r) fuel ?_ ?_
  · refine ⟨0, ?_, ?_, ?_, ?_, h⟩
    all_goals simp +decide only [F, reduceIte, Nat.reduceAdd, Bool.not_true, Bool.not_false, EN, *, -h]
  rintro mL1 s1 ⟨v8, f2, f3, f4, f5, h⟩
  rcases mL1 with _ | mL1
  · exact absurd h (by simp [cE])
  simp only [cE] at h
  refine sq (rn ?_)
  refine an (sq ?_)
  rcases aBO (decide (v8 < (List.length p0 : Int))) with b6 | b6
  · replace h := bI b6 h
    refine cf (xt (nE (pT (aAS (an (sq (rn ?_)))))))
    refine an (rt ?_)
    cases h
    simp [Ret, TB, EN, *]
  replace h := bJ b6 h
  refine ct (sk (an (sq (bk (sq (rn ?_))))))
  refine an (sq ?_)
  obtain ⟨x7, h8, h⟩ := bind_some h
  obtain ⟨q9, q10, q11⟩ := aT h8
  obtain ⟨x12, h13, h⟩ := bind_some h
  refine rn1 (hp1 x7 x12 h13) ?_
  refine an ?_
  rcases dH x12 with b14 | b14
  · replace h := bJ b14 h
    refine ct (sq (rn ?_))
    refine an (rt ?_)
    cases h
    simp [Ret, TB, EN, *]
  replace h := bI b14 h
  refine cf (sk (ab (an (rn ?_))))
  refine xX ⟨mL1, by omega, (IntKind.i64.wrap (v8 + 1)), ?_, ?_, ?_, ?_, h⟩
  all_goals simp +decide only [F, reduceIte, Nat.reduceAdd, Bool.not_true, Bool.not_false, EN, *, -h]
instance : bC 141 (type_of% @aQh) := ⟨@aQh⟩
theorem c60 (p0 p1 r) (h : uQ p0 p1 = some r) : Sc 60 [aX (M.World.en p0), aI p1] [rI r] := by
  unfold uQ at h
  simp only [EN]
  refine sgn 9 [.tmp 4] Tryz.func60 fun base wd => ?_
  refine sq (rn ?_)
  refine an (sq ?_)
  obtain ⟨x1, h2, h⟩ := bind_some h
  refine rn1 (aQh p0.Pages (fun z0 => pE z0 p1) 142 [.ptr [.int .i64 p1]] (fun z0 r hr => aQo z0 p1 r hr) x1 h2) ?_
  refine an (rt ?_)
  cases h
  simp [Ret, TB, EN, *]
instance : bC 60 (type_of% @c60) := ⟨@c60⟩
theorem aM7 (p0 p1 p2 r) (h : aZ p0 p1 p2 = some r) : Sc 104 [aI p0, aI p1, aI p2] [rB r] := by
 unfold aZ at h
 exact sgo 15 [.tmp 6] Tryz.func104
instance : bC 104 (type_of% @aM7) := ⟨@aM7⟩
theorem aSU (p0 p1 p2 r) (h : yE p0 p1 p2 = some r) : Sc 259 [aS p0, aI p1, aB p2] [rB r] := by
 have i1 := inv fun m s => ∃ v7 : Int, (s.t 0 = vS p0 ∧ s.t 1 = vI p1 ∧ s.t 2 = vB p2 ∧ s.t 7 = vI v7) ∧ gF p0 p1 p2 m v7 = some r
 have e1 := @gF.eq_2
 unfold yE at h
 exact sgo 38 [.tmp 6] Tryz.func259
instance : bC 259 (type_of% @aSU) := ⟨@aSU⟩
theorem aNc (p0 r) (h : bV p0 = some r) : Sc 188 [aS p0] [rB r] := by
 unfold bV at h
 exact sgo 5 [.tmp 2] Tryz.func188
instance : bC 188 (type_of% @aNc) := ⟨@aNc⟩
theorem aUw (p0 r) (h : pG p0 = some r) : Sc 254 [aX (M.Registration.en p0)] [rB r] := by
  unfold pG at h
  simp only [EN]
  refine sgn 37 [.tmp 2] Tryz.func254 fun base wd => ?_
  refine sq (rn ?_)
  refine an (sq (rn ?_))
  refine an (sq (sq (rn ?_)))
  refine an (bk ?_)
  refine cu (fun s => s.t 1 = vP 1 1 0 ∧ s.t 3 = vI 0 ∧ s.t 12 = vR 100012 1 ∧ s.t 13 = vI ((3 : Nat) : Int) ∧ s.t 14 = vI 0 ∧ s.h 1 = (1, oX 194 (M.Registration.en p0)) ∧ s.h 100012 = (1, oW 3 1 enI ([p0.Active, p0.Waiting, p0.Installing])) ∧ True) ?_
  rintro s1 ⟨f2, f3, f4, f5, f6, f7, f8, _⟩
  refine lR (fun m s => ∃ v3 : Int, ∃ v14 : Int, s.t 1 = vP 1 1 0 ∧ s.t 3 = vI v3 ∧ s.t 12 = vR 100012 1 ∧ s.t 13 = vI ((3 : Nat) : Int) ∧ s.t 14 = vI v14 ∧ s.h 1 = (1, oX 194 (M.Registration.en p0)) ∧ s.h 100012 = (1, oW 3 1 enI ([p0.Active, p0.Waiting, p0.Installing])) ∧ cV p0 m v3 v14 = some r) fuel ?_ ?_
  · refine ⟨0, 0, ?_, ?_, ?_, ?_, ?_, ?_, ?_, h⟩
    all_goals simp +decide only [F, reduceIte, Nat.reduceAdd, Bool.not_true, Bool.not_false, EN, *, -h]
  rintro mL1 s9 ⟨v3, v14, f10, f11, f12, f13, f14, f15, f16, h⟩
  rcases mL1 with _ | mL1
  · exact absurd h (by simp [cV])
  simp only [cV] at h
  refine sq (rn ?_)
  refine an (sq ?_)
  rcases aBO (decide (v14 < ((3 : Nat) : Int))) with b17 | b17
  · replace h := bI b17 h
    refine cf (xt (nE (pT (aAS (an (sq ?_))))))
    obtain ⟨x28, h29, h⟩ := bind_some h
    refine rn1 (aNc _ _ h29) ?_
    refine an (rt ?_)
    cases h
    simp [Ret, TB, EN, *]
  replace h := bJ b17 h
  refine ct (sk (an (sq (bk (sq ?_)))))
  obtain ⟨x18, h19, h⟩ := bind_some h
  obtain ⟨q20, q21, q22⟩ := aT h19
  have q20m := congrArg (Option.map enI) (show ([p0.Active, p0.Waiting, p0.Installing])[v14.toNat]? = some x18 by assumption)
  simp only [← List.getElem?_map, List.map_cons, List.map_nil, Option.map_some, EN] at q20m
  simp only [List.length_cons, List.length_nil, Nat.reduceAdd] at q22
  refine rn ?_
  refine an (sq (sq ?_))
  obtain ⟨x23, h24, h⟩ := bind_some h
  rcases dH (!x23) with b25 | b25
  · replace h := bJ b25 h
    refine rn1 (aM7 _ _ _ _ h24) ?_
    refine an (ct (sq (rn ?_)))
    refine an (rt ?_)
    cases h
    simp [Ret, TB, EN, *]
  replace h := bI b25 h
  rcases aBO (x18 != 0) with b26 | b26
  · replace h := bI b26 h
    refine rn1 (aM7 _ _ _ _ h24) ?_
    refine an (cf (sk (an (rn ?_))))
    refine ab (an (rn ?_))
    refine xX ⟨mL1, by omega, (if x18 > v3 then x18 else v3), (IntKind.i64.wrap (v14 + 1)), ?_, ?_, ?_, ?_, ?_, ?_, ?_, h⟩
    all_goals simp +decide only [F, reduceIte, Nat.reduceAdd, Bool.not_true, Bool.not_false, EN, *, -h]
  replace h := bJ b26 h
  refine rn1 (aM7 _ _ _ _ h24) ?_
  refine an ?_
  rcases dH (decide (x18 ≤ v3)) with b27 | b27
  · replace h := bJ b27 h
    refine ct (sq (rn ?_))
    refine an (rt ?_)
    cases h
    simp [Ret, TB, EN, *]
  replace h := bI b27 h
  refine cf (sk (an (rn ?_)))
  refine ab (an (rn ?_))
  refine xX ⟨mL1, by omega, (if x18 > v3 then x18 else v3), (IntKind.i64.wrap (v14 + 1)), ?_, ?_, ?_, ?_, ?_, ?_, ?_, h⟩
  all_goals simp +decide only [F, reduceIte, Nat.reduceAdd, Bool.not_true, Bool.not_false, EN, *, -h]
instance : bC 254 (type_of% @aUw) := ⟨@aUw⟩
theorem aQq (p0 c0 c1 r) (h : nI p0 c0 c1 = some r) : Sc 342 [aX (M.Cached.en p0), (false, [.ptr [.str c0]]), (false, [.ptr [.str c1]])] [rB r] := by
 unfold nI at h
 exact sgo 15 [.tmp 4] Tryz.func342
instance : bC 342 (type_of% @aQq) := ⟨@aQq⟩
theorem aQl (p0 : List M.Cached) (p1 : M.Cached → Option Bool) (f1_ : FuncId) (k1_ : List D) (hp1 : ∀ z0 r, p1 z0 = some r → rU Tryz.prog f1_ ((true, M.Cached.en z0) ::  k1_.map fun c => (false, [c])) [(false, [.ro (.bool r)])]) (r : Int) (h : hM p0 p1 = some r) : Sc 341 [(false, [.sl (List.map M.Cached.en p0)]), (false, [.fn f1_ k1_])] [rI r] := by
  unfold hM at h
  simp only [EN]
  refine sgn 19 [.tmp 4] Tryz.func341 fun base wd => ?_
  refine sq (rn ?_)
  refine an (sq (sq (rn ?_)))
  refine an (bk ?_)
  refine lR (fun m s => ∃ v8 : Int, s.t 0 = vL M.Cached.en p0 ∧ s.t 1 = .v false [.dat (.fn f1_ k1_)] ∧ s.t 7 = vI (List.length p0 : Int) ∧ s.t 8 = vI v8 ∧ bQ p0 p1 m v8 = some r) fuel ?_ ?_
  · refine ⟨0, ?_, ?_, ?_, ?_, h⟩
    all_goals simp +decide only [F, reduceIte, Nat.reduceAdd, Bool.not_true, Bool.not_false, EN, *, -h]
  rintro mL1 s1 ⟨v8, f2, f3, f4, f5, h⟩
  rcases mL1 with _ | mL1
  · exact absurd h (by simp [bQ])
  simp only [bQ] at h
  refine sq (rn ?_)
  refine an (sq ?_)
  rcases aBO (decide (v8 < (List.length p0 : Int))) with b6 | b6
  · replace h := bI b6 h
    refine cf (xt (nE (pT (aAS (an (sq (rn ?_)))))))
    refine an (rt ?_)
    cases h
    simp [Ret, TB, EN, *]
  replace h := bJ b6 h
  refine ct (sk (an (sq (bk (sq (rn ?_))))))
  refine an (sq ?_)
  obtain ⟨x7, h8, h⟩ := bind_some h
  obtain ⟨q9, q10, q11⟩ := aT h8
  obtain ⟨x12, h13, h⟩ := bind_some h
  refine rn1 (hp1 x7 x12 h13) ?_
  refine an ?_
  rcases dH x12 with b14 | b14
  · replace h := bJ b14 h
    refine ct (sq (rn ?_))
    refine an (rt ?_)
    cases h
    simp [Ret, TB, EN, *]
  replace h := bI b14 h
  refine cf (sk (ab (an (rn ?_))))
  refine xX ⟨mL1, by omega, (IntKind.i64.wrap (v8 + 1)), ?_, ?_, ?_, ?_, h⟩
  all_goals simp +decide only [F, reduceIte, Nat.reduceAdd, Bool.not_true, Bool.not_false, EN, *, -h]
instance : bC 341 (type_of% @aQl) := ⟨@aQl⟩
theorem aUr (p0 p1 p2 r) (h : kC p0 p1 p2 = some r) : Sc 282 [aX (M.Cache.en p0), aS p1, aS p2] [rI r] := by
  unfold kC at h
  simp only [EN]
  refine sgn 11 [.tmp 6] Tryz.func282 fun base wd => ?_
  refine sq (rn ?_)
  refine an (sq ?_)
  obtain ⟨x1, h2, h⟩ := bind_some h
  refine rn1 (aQl p0.Entries (fun z0 => nI z0 p1 p2) 342 [.ptr [.str p1], .ptr [.str p2]] (fun z0 r hr => aQq z0 p1 p2 r hr) x1 h2) ?_
  refine an (rt ?_)
  cases h
  simp [Ret, TB, EN, *]
instance : bC 282 (type_of% @aUr) := ⟨@aUr⟩
theorem aUj (p0 r) (h : mJ p0 = some r) : Sc 318 [aX (M.Response.en p0)] [rB r] := by
 unfold mJ at h
 exact sgo 22 [.tmp 2] Tryz.func318
instance : bC 318 (type_of% @aUj) := ⟨@aUj⟩
theorem aSZ (p0 r) (h : qU p0 = some r) : Sc 255 [aX (M.aP.en p0)] [rB r] := by
 have i1 := inv fun m s => ∃ v10 : Int, (s.t 1 = vP 1 1 0 ∧ s.t 8 = vL M.Cache.en p0.Caches ∧ s.t 9 = vI (List.length p0.Caches : Int) ∧ s.t 10 = vI v10 ∧ s.h 1 = (1, oX 197 (M.aP.en p0))) ∧ eM p0 m v10 = some r
 have e1 := @eM.eq_2
 have i2 := fun (v10 : Int) (x8 : M.Cache) (k25 : Int → Option Bool) (s1 : St) => inv fun m s => ∃ v44_L2 : Int, (s.t 1 = vP 1 1 0 ∧ s.t 4 = vP 4 ((s1.h 4).1 + 1) 0 ∧ s.t 8 = vL M.Cache.en p0.Caches ∧ s.t 9 = vI (List.length p0.Caches : Int) ∧ s.t 10 = vI v10 ∧ s.t 42 = vL M.Cached.en x8.Entries ∧ s.t 43 = vI (List.length x8.Entries : Int) ∧ s.t 44 = vI v44_L2 ∧ s.h 1 = (1, oX 197 (M.aP.en p0)) ∧ s.h 4 = (((s1.h 4).1 + 1), oX 342 (M.Cache.en x8))) ∧ eI x8 k25 m v44_L2 = some r
 have e2 := @eI.eq_2
 have i3 := fun (v10 : Int) (x8 : M.Cache) (k57 : Int → Option Bool) (s1 : St) => inv fun m s => ∃ v44_L3 : Int, (s.t 1 = vP 1 1 0 ∧ s.t 4 = vP 4 ((s1.h 4).1 + 1) 0 ∧ s.t 8 = vL M.Cache.en p0.Caches ∧ s.t 9 = vI (List.length p0.Caches : Int) ∧ s.t 10 = vI v10 ∧ s.t 42 = vL M.Cached.en x8.Entries ∧ s.t 43 = vI (List.length x8.Entries : Int) ∧ s.t 44 = vI v44_L3 ∧ s.h 1 = (1, oX 197 (M.aP.en p0)) ∧ s.h 4 = (((s1.h 4).1 + 1), oX 342 (M.Cache.en x8))) ∧ eB x8 k57 m v44_L3 = some r
 have e3 := @eB.eq_2
 unfold qU at h
 exact sgo 81 [.tmp 2] Tryz.func255
instance : bC 255 (type_of% @aSZ) := ⟨@aSZ⟩
theorem aSr (p0 r) (h : uN p0 = some r) : Sc 326 [aS p0] [rB r] := by
 have i1 := inv fun m s => ∃ v3 : Int, (s.t 0 = vS p0 ∧ s.t 3 = vI v3) ∧ dY p0 m v3 = some r
 have e1 := @dY.eq_2
 unfold uN at h
 exact sgo 36 [.tmp 2] Tryz.func326
instance : bC 326 (type_of% @aSr) := ⟨@aSr⟩
theorem aQN (p0 r) (h : nZ p0 = some r) : Sc 260 [aX (M.Key.en p0)] [rB r] := by
 unfold nZ at h
 exact sgo 39 [.tmp 2] Tryz.func260
instance : bC 260 (type_of% @aQN) := ⟨@aQN⟩
theorem aRL (p0 r) (h : qY p0 = some r) : Sc 261 [aX (M.aU.en p0)] [rB r] := by
 have i1 := inv fun m s => ∃ v8 : Int, (s.t 1 = vP 1 1 0 ∧ s.t 6 = vL M.Field.en p0.Fields ∧ s.t 7 = vI (List.length p0.Fields : Int) ∧ s.t 8 = vI v8 ∧ s.h 1 = (1, oX 285 (M.aU.en p0))) ∧ fU p0 m v8 = some r
 have e1 := @fU.eq_2
 unfold qY at h
 exact sgo 44 [.tmp 2] Tryz.func261
instance : bC 261 (type_of% @aRL) := ⟨@aRL⟩
theorem aRK (p0 p1 r) (h : oT p0 p1 = some r) : Sc 327 [aI p0, aI p1] [rI r] := by
 unfold oT at h
 exact sgo 13 [.tmp 4] Tryz.func327
instance : bC 327 (type_of% @aRK) := ⟨@aRK⟩
set_option maxRecDepth 100000 in
set_option maxHeartbeats 4000000 in
theorem aTi (p0 : ByteArray) (p1 : ByteArray) (r : Int) (h : jF p0 p1 = some r) : rU Tryz.prog 374 [(false, [.str p0]), (false, [.str p1])] [(false, [.ro (.int .i64 r)])] := by
  refine aKX Tryz.func374 rfl (by decide +kernel) fun w => ?_
  cases h
  go_enter Tryz.func374, Tryz.ntmps374
  go_wp2
  rw [run_callFunc_extern Tryz.func398 (by kernel_rfl) (by kernel_rfl) (by kernel_rfl) (e := Extern.BytealgCompare.compare) (by kernel_rfl), Lib.run_compareString]
  simp only [Result.andThen]
  rw [Oper.upon_value]
  go_wp2
  go_ret
  exact ⟨rfl, rfl⟩
instance : bC 374 (type_of% @aTi) := ⟨@aTi⟩
theorem aRB (p0 p1 r) (h : xW p0 p1 = some r) : Sc 328 [aS p0, aS p1] [rI r] := by
 unfold xW at h
 exact sgo 8 [.tmp 4] Tryz.func328
instance : bC 328 (type_of% @aRB) := ⟨@aRB⟩
theorem aTM (p0 p1 r) (h : kR p0 p1 = some r) : Sc 262 [aX (M.Key.en p0), aX (M.Key.en p1)] [rI r] := by
 unfold kR at h
 exact sgo 36 [.tmp 4] Tryz.func262
instance : bC 262 (type_of% @aTM) := ⟨@aTM⟩
theorem aP3 (p0 r) (h : pK p0 = some r) : Sc 192 [aX (M.aG.en p0)] [rB r] := by
 have i1 := inv fun m s => ∃ v8 : Int, (s.t 1 = vP 1 1 0 ∧ s.t 6 = vL M.Item.en p0.Items ∧ s.t 7 = vI (List.length p0.Items : Int) ∧ s.t 8 = vI v8 ∧ s.h 1 = (1, oX 141 (M.aG.en p0))) ∧ gI p0 m v8 = some r
 have e1 := @gI.eq_2
 unfold pK at h
 exact sgo 55 [.tmp 2] Tryz.func192
instance : bC 192 (type_of% @aP3) := ⟨@aP3⟩
theorem aQp (p0 c0 r) (h : nX p0 c0 = some r) : Sc 366 [aX (M.aG.en p0), (false, [.ptr [.str c0]])] [rB r] := by
 unfold nX at h
 exact sgo 8 [.tmp 3] Tryz.func366
instance : bC 366 (type_of% @aQp) := ⟨@aQp⟩
theorem aQe (p0 : List M.aG) (p1 : M.aG → Option Bool) (f1_ : FuncId) (k1_ : List D) (hp1 : ∀ z0 r, p1 z0 = some r → rU Tryz.prog f1_ ((true, M.aG.en z0) ::  k1_.map fun c => (false, [c])) [(false, [.ro (.bool r)])]) (r : Int) (h : iN p0 p1 = some r) : Sc 365 [(false, [.sl (List.map M.aG.en p0)]), (false, [.fn f1_ k1_])] [rI r] := by
  unfold iN at h
  simp only [EN]
  refine sgn 19 [.tmp 4] Tryz.func365 fun base wd => ?_
  refine sq (rn ?_)
  refine an (sq (sq (rn ?_)))
  refine an (bk ?_)
  refine lR (fun m s => ∃ v8 : Int, s.t 0 = vL M.aG.en p0 ∧ s.t 1 = .v false [.dat (.fn f1_ k1_)] ∧ s.t 7 = vI (List.length p0 : Int) ∧ s.t 8 = vI v8 ∧ bZ p0 p1 m v8 = some r) fuel ?_ ?_
  · refine ⟨0, ?_, ?_, ?_, ?_, h⟩
    all_goals simp +decide only [F, reduceIte, Nat.reduceAdd, Bool.not_true, Bool.not_false, EN, *, -h]
  rintro mL1 s1 ⟨v8, f2, f3, f4, f5, h⟩
  rcases mL1 with _ | mL1
  · exact absurd h (by simp [bZ])
  simp only [bZ] at h
  refine sq (rn ?_)
  refine an (sq ?_)
  rcases aBO (decide (v8 < (List.length p0 : Int))) with b6 | b6
  · replace h := bI b6 h
    refine cf (xt (nE (pT (aAS (an (sq (rn ?_)))))))
    refine an (rt ?_)
    cases h
    simp [Ret, TB, EN, *]
  replace h := bJ b6 h
  refine ct (sk (an (sq (bk (sq (rn ?_))))))
  refine an (sq ?_)
  obtain ⟨x7, h8, h⟩ := bind_some h
  obtain ⟨q9, q10, q11⟩ := aT h8
  obtain ⟨x12, h13, h⟩ := bind_some h
  refine rn1 (hp1 x7 x12 h13) ?_
  refine an ?_
  rcases dH x12 with b14 | b14
  · replace h := bJ b14 h
    refine ct (sq (rn ?_))
    refine an (rt ?_)
    cases h
    simp [Ret, TB, EN, *]
  replace h := bI b14 h
  refine cf (sk (ab (an (rn ?_))))
  refine xX ⟨mL1, by omega, (IntKind.i64.wrap (v8 + 1)), ?_, ?_, ?_, ?_, h⟩
  all_goals simp +decide only [F, reduceIte, Nat.reduceAdd, Bool.not_true, Bool.not_false, EN, *, -h]
instance : bC 365 (type_of% @aQe) := ⟨@aQe⟩
theorem aQ2 (p0 p1 r) (h : uZ p0 p1 = some r) : Sc 319 [aX (M.Database.en p0), aS p1] [rI r] := by
  unfold uZ at h
  simp only [EN]
  refine sgn 9 [.tmp 4] Tryz.func319 fun base wd => ?_
  refine sq (rn ?_)
  refine an (sq ?_)
  obtain ⟨x1, h2, h⟩ := bind_some h
  refine rn1 (aQe p0.Stores (fun z0 => nX z0 p1) 366 [.ptr [.str p1]] (fun z0 r hr => aQp z0 p1 r hr) x1 h2) ?_
  refine an (rt ?_)
  cases h
  simp [Ret, TB, EN, *]
instance : bC 319 (type_of% @aQ2) := ⟨@aQ2⟩
theorem aRZ (p0 p1 r) (h : iU p0 p1 = some r) : Sc 367 [aL M.aA.en p0, aX (M.aA.en p1)] [rI r] := by
 have i1 := inv fun m s => ∃ v8 : Int, (s.t 0 = vL M.aA.en p0 ∧ s.t 3 = vP 3 1 0 ∧ s.t 7 = vI (List.length p0 : Int) ∧ s.t 8 = vI v8 ∧ s.h 3 = (1, oX 345 (M.aA.en p1))) ∧ dF p0 p1 m v8 = some r
 have e1 := @dF.eq_2
 unfold iU at h
 exact sgo 19 [.tmp 4] Tryz.func367
instance : bC 367 (type_of% @aRZ) := ⟨@aRZ⟩
theorem aQV (p0 p1 r) (h : gT p0 p1 = some r) : Sc 320 [aL M.aA.en p0, aX (M.aA.en p1)] [rB r] := by
 unfold gT at h
 exact sgo 9 [.tmp 4] Tryz.func320
instance : bC 320 (type_of% @aQV) := ⟨@aQV⟩
theorem aQy (p0 c0 r) (h : uY p0 c0 = some r) : Sc 411 [aX (M.Field.en p0), (false, [.ptr [.str c0]])] [rB r] := by
 unfold uY at h
 exact sgo 8 [.tmp 3] Tryz.func411
instance : bC 411 (type_of% @aQy) := ⟨@aQy⟩
theorem aQg (p0 : List M.Field) (p1 : M.Field → Option Bool) (f1_ : FuncId) (k1_ : List D) (hp1 : ∀ z0 r, p1 z0 = some r → rU Tryz.prog f1_ ((true, M.Field.en z0) ::  k1_.map fun c => (false, [c])) [(false, [.ro (.bool r)])]) (r : Int) (h : iK p0 p1 = some r) : Sc 410 [(false, [.sl (List.map M.Field.en p0)]), (false, [.fn f1_ k1_])] [rI r] := by
  unfold iK at h
  simp only [EN]
  refine sgn 19 [.tmp 4] Tryz.func410 fun base wd => ?_
  refine sq (rn ?_)
  refine an (sq (sq (rn ?_)))
  refine an (bk ?_)
  refine lR (fun m s => ∃ v8 : Int, s.t 0 = vL M.Field.en p0 ∧ s.t 1 = .v false [.dat (.fn f1_ k1_)] ∧ s.t 7 = vI (List.length p0 : Int) ∧ s.t 8 = vI v8 ∧ bW p0 p1 m v8 = some r) fuel ?_ ?_
  · refine ⟨0, ?_, ?_, ?_, ?_, h⟩
    all_goals simp +decide only [F, reduceIte, Nat.reduceAdd, Bool.not_true, Bool.not_false, EN, *, -h]
  rintro mL1 s1 ⟨v8, f2, f3, f4, f5, h⟩
  rcases mL1 with _ | mL1
  · exact absurd h (by simp [bW])
  simp only [bW] at h
  refine sq (rn ?_)
  refine an (sq ?_)
  rcases aBO (decide (v8 < (List.length p0 : Int))) with b6 | b6
  · replace h := bI b6 h
    refine cf (xt (nE (pT (aAS (an (sq (rn ?_)))))))
    refine an (rt ?_)
    cases h
    simp [Ret, TB, EN, *]
  replace h := bJ b6 h
  refine ct (sk (an (sq (bk (sq (rn ?_))))))
  refine an (sq ?_)
  obtain ⟨x7, h8, h⟩ := bind_some h
  obtain ⟨q9, q10, q11⟩ := aT h8
  obtain ⟨x12, h13, h⟩ := bind_some h
  refine rn1 (hp1 x7 x12 h13) ?_
  refine an ?_
  rcases dH x12 with b14 | b14
  · replace h := bJ b14 h
    refine ct (sq (rn ?_))
    refine an (rt ?_)
    cases h
    simp [Ret, TB, EN, *]
  replace h := bI b14 h
  refine cf (sk (ab (an (rn ?_))))
  refine xX ⟨mL1, by omega, (IntKind.i64.wrap (v8 + 1)), ?_, ?_, ?_, ?_, h⟩
  all_goals simp +decide only [F, reduceIte, Nat.reduceAdd, Bool.not_true, Bool.not_false, EN, *, -h]
instance : bC 410 (type_of% @aQg) := ⟨@aQg⟩
theorem aU8 (p0 p1 r) (h : aBQ p0 p1 = some r) : Sc 395 [aX (M.aU.en p0), aS p1] [rI r] := by
  unfold aBQ at h
  simp only [EN]
  refine sgn 9 [.tmp 4] Tryz.func395 fun base wd => ?_
  refine sq (rn ?_)
  refine an (sq ?_)
  obtain ⟨x1, h2, h⟩ := bind_some h
  refine rn1 (aQg p0.Fields (fun z0 => uY z0 p1) 411 [.ptr [.str p1]] (fun z0 r hr => aQy z0 p1 r hr) x1 h2) ?_
  refine an (rt ?_)
  cases h
  simp [Ret, TB, EN, *]
instance : bC 395 (type_of% @aU8) := ⟨@aU8⟩
theorem aQu (p0 p1 r) (h : iY p0 p1 = some r) : Sc 369 [aX (M.aU.en p0), aS p1] [rI r.1, rB r.2] := by
 unfold iY at h
 exact sgo 18 [.tmp 4, .tmp 5] Tryz.func369
instance : bC 369 (type_of% @aQu) := ⟨@aQu⟩
theorem aQt (p0 p1 p2 r) (h : oF p0 p1 p2 = some r) : Sc 393 [aX (M.Item.en p0), aX (M.Item.en p1), aS p2] [rB r] := by
 unfold oF at h
 exact sgo 41 [.tmp 6] Tryz.func393
instance : bC 393 (type_of% @aQt) := ⟨@aQt⟩
end Go.Proofs.YtecmnmaaopkdfaaGreat.gen
