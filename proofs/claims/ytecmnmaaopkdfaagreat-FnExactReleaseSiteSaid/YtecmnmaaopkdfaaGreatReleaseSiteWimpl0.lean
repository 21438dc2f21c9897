/-
  Helper text. No conditions.
-/
import Derived.Test.YtecmnmaaopkdfaaGreatReleaseSiteTi
namespace Go.Proofs.YtecmnmaaopkdfaaGreat.gen
open Go Go.Sh
set_option linter.unusedVariables false
set_option linter.unusedSimpArgs false
set_option maxRecDepth 20000
set_option maxHeartbeats 4000000
theorem aRm (p0 r) (h : iK p0 = some r) : Sc 315 [aL enB p0] [rW 5 1 enB r] := by
 unfold iK at h
 exact sgo 6 [.tmp 2] Tryz.func315
instance : bD 315 (type_of% @aRm) := ⟨@aRm⟩
theorem aSx (p0 r) (h : lW p0 = some r) : Sc 283 [aX (M.Response.en p0)] [(true, M.Response.rs r)] := by
 unfold lW at h
 exact sgo 8 [.cell 2 110] Tryz.func283
instance : bD 283 (type_of% @aSx) := ⟨@aSx⟩
theorem aQC (p0 r) (h : lU p0 = some r) : Sc 250 [aX (M.aT.en p0)] [(true, M.aT.rs r)] := by
 have i1 := aJb [.b 3 0 7050100 342 2] fun m s => ∃ v13 : Int, ∃ r50100 : List M.Cache, ∃ u50100 : Nat, (s.t 2 = vP 2 1 0 ∧ s.t 3 = vP 3 1 0 ∧ s.t 11 = vL M.Cache.en p0.Caches ∧ s.t 12 = vI (List.length p0.Caches : Int) ∧ s.t 13 = vI v13 ∧ s.h 2 = (1, oB 197 [.nil]) ∧ s.h 3 = (1, oB 197 [.row 7050100 u50100]) ∧ s.h 7050100 = (u50100, oW 342 2 M.Cache.en r50100)) ∧ dS p0 m v13 r50100 = some r
 have e1 := @dS.eq_2
 have i2 := fun (v13 : Int) (r50100 : List M.Cache) (x11 : M.Cache) (k17 : Int → List M.Cached → Option M.aT) (s1 : St) (u50100 : Nat) => aJb [.b 6 1 7050000 352 7] fun m s => ∃ v23_L2 : Int, ∃ r50000_L2 : List M.Cached, ∃ u50000_L2 : Nat, (s.t 2 = vP 2 1 0 ∧ s.t 3 = vP 3 1 0 ∧ s.t 6 = vP 6 ((s1.h 6).1 + 1) 0 ∧ s.t 11 = vL M.Cache.en p0.Caches ∧ s.t 12 = vI (List.length p0.Caches : Int) ∧ s.t 13 = vI v13 ∧ s.t 21 = vL M.Cached.en x11.Entries ∧ s.t 22 = vI (List.length x11.Entries : Int) ∧ s.t 23 = vI v23_L2 ∧ s.h 2 = (1, oB 197 [.nil]) ∧ s.h 3 = (1, oB 197 [.row 7050100 u50100]) ∧ s.h 6 = (((s1.h 6).1 + 1), oB 342 [cI x11.Version, .row 7050000 u50000_L2]) ∧ s.h 7050000 = (u50000_L2, oW 352 7 M.Cached.en r50000_L2) ∧ s.h 7050100 = (u50100, oW 342 2 M.Cache.en r50100)) ∧ fE x11 k17 m v23_L2 r50000_L2 = some r
 have e2 := @fE.eq_2
 unfold lU at h
 exact sgo 46 [.cell 2 197] Tryz.func250
instance : bD 250 (type_of% @aQC) := ⟨@aQC⟩
theorem aRi (p0 r) (h : pE p0 = some r) : Sc 317 [aX (M.aU.en p0)] [(true, M.aU.rs r)] := by
 unfold pE at h
 exact sgo 8 [.cell 2 285] Tryz.func317
instance : bD 317 (type_of% @aRi) := ⟨@aRi⟩
theorem aOZ (p0 r) (h : pG p0 = some r) : Sc 253 [aX (M.Item.en p0)] [(true, M.Item.rs r)] := by
 unfold pG at h
 exact sgo 9 [.cell 2 287] Tryz.func253
instance : bD 253 (type_of% @aOZ) := ⟨@aOZ⟩
theorem aPg (p0 r) (h : kI p0 = some r) : Sc 184 [aX (M.aH.en p0)] [(true, M.aH.rs r)] := by
 have i1 := aJb [.b 3 1 7050000 287 4] fun m s => ∃ v14 : Int, ∃ r50000 : List M.Item, ∃ u50000 : Nat, (s.t 2 = vP 2 1 0 ∧ s.t 3 = vP 3 1 0 ∧ s.t 12 = vL M.Item.en p0.Items ∧ s.t 13 = vI (List.length p0.Items : Int) ∧ s.t 14 = vI v14 ∧ s.h 2 = (1, oB 141 [cS (⟨#[]⟩ : ByteArray), .nil, cI 0]) ∧ s.h 3 = (1, oB 141 [cS p0.Name, .row 7050000 u50000, cI p0.Auto]) ∧ s.h 7050000 = (u50000, oW 287 4 M.Item.en r50000)) ∧ gW p0 m v14 r50000 = some r
 have e1 := @gW.eq_2
 unfold kI at h
 exact sgo 27 [.cell 2 141] Tryz.func184
instance : bD 184 (type_of% @aPg) := ⟨@aPg⟩
theorem aRA (p0 r) (h : mA p0 = some r) : Sc 314 [aX (M.Database.en p0)] [(true, M.Database.rs r)] := by
 have i1 := aJb [.b 3 2 7050000 141 3] fun m s => ∃ v18 : Int, ∃ r50000 : List M.aH, ∃ u50000 : Nat, (s.t 2 = vP 2 1 0 ∧ s.t 3 = vP 3 1 0 ∧ s.t 16 = vL M.aH.en p0.Stores ∧ s.t 17 = vI (List.length p0.Stores : Int) ∧ s.t 18 = vI v18 ∧ s.h 2 = (1, oB 201 [cS (⟨#[]⟩ : ByteArray), cI 0, .nil, .nil]) ∧ s.h 3 = (1, oB 201 [cS p0.Name, cI p0.Version, .row 7050000 u50000, .row 100010 2]) ∧ s.h 100010 = (2, oW 345 2 M.aA.en p0.Unique) ∧ s.h 7050000 = (u50000, oW 141 3 M.aH.en r50000)) ∧ fH p0 m v18 r50000 = some r
 have e1 := @fH.eq_2
 unfold mA at h
 exact sgo 31 [.cell 2 201] Tryz.func314
instance : bD 314 (type_of% @aRA) := ⟨@aRA⟩
theorem aSW (p0 r) (h : vN p0 = some r) : Sc 251 [aX (M.bC.en p0)] [(true, M.bC.rs r)] := by
 unfold vN at h
 exact sgo 12 [.cell 2 203] Tryz.func251
instance : bD 251 (type_of% @aSW) := ⟨@aSW⟩
theorem aPQ (p0 r) (h : oV p0 = some r) : Sc 364 [aX (M.aV.en p0)] [(true, M.aV.rs r)] := by
 unfold oV at h
 exact sgo 9 [.cell 2 205] Tryz.func364
instance : bD 364 (type_of% @aPQ) := ⟨@aPQ⟩
theorem aRw (p0 r) (h : uQ p0 = some r) : Sc 316 [aX (M.Sync.en p0)] [(true, M.Sync.rs r)] := by
 unfold uQ at h
 exact sgo 8 [.cell 2 207] Tryz.func316
instance : bD 316 (type_of% @aRw) := ⟨@aRw⟩
theorem aPN (p0 r) (h : nY p0 = some r) : Sc 252 [aX (M.aC.en p0)] [(true, M.aC.rs r)] := by
 unfold nY at h
 exact sgo 12 [.cell 2 209] Tryz.func252
instance : bD 252 (type_of% @aPN) := ⟨@aPN⟩
theorem aP9 (p0 r) (h : pD p0 = some r) : Sc 183 [aX (M.aE.en p0)] [(true, M.aE.rs r)] := by
 unfold pD at h
 exact sgo 16 [.cell 2 211] Tryz.func183
instance : bD 183 (type_of% @aP9) := ⟨@aP9⟩
theorem c97 (p0 r) (h : mT p0 = some r) : Sc 97 [aX (M.aK.en p0)] [(true, M.aK.rs r)] := by
 have i1 := aJb [.b 3 0 7050000 211 24] fun m s => ∃ v10 : Int, ∃ r50000 : List M.aE, ∃ u50000 : Nat, (s.t 2 = vP 2 1 0 ∧ s.t 3 = vP 3 1 0 ∧ s.t 8 = vL M.aE.en p0.Buckets ∧ s.t 9 = vI (List.length p0.Buckets : Int) ∧ s.t 10 = vI v10 ∧ s.h 2 = (1, oB 39 [.nil]) ∧ s.h 3 = (1, oB 39 [.row 7050000 u50000]) ∧ s.h 7050000 = (u50000, oW 211 24 M.aE.en r50000)) ∧ fR p0 m v10 r50000 = some r
 have e1 := @fR.eq_2
 unfold mT at h
 exact sgo 23 [.cell 2 39] Tryz.func97
instance : bD 97 (type_of% @c97) := ⟨@c97⟩
theorem aRL (p0 r) (h : nO p0 = some r) : Sc 217 [aX (M.Machine.en p0)] [(true, M.Machine.rs r)] := by
 unfold nO at h
 exact sgo 16 [.cell 2 102] Tryz.func217
instance : bD 217 (type_of% @aRL) := ⟨@aRL⟩
theorem aQB (p0 r) (h : uT p0 = some r) : Sc 156 [aX (M.bJ.en p0)] [(true, M.bJ.rs r)] := by
 unfold uT at h
 exact sgo 13 [.cell 2 104] Tryz.func156
instance : bD 156 (type_of% @aQB) := ⟨@aQB⟩
theorem c98 (p0 r) (h : sZ p0 = some r) : Sc 98 [aL M.bJ.en p0] [rW 104 11 M.bJ.en r] := by
 have i1 := inv fun m s => ∃ v9 : Int, ∃ r6 : List M.bJ, ∃ u6 : Nat, (s.t 3 = vR 100006 u6 ∧ s.t 7 = vL M.bJ.en p0 ∧ s.t 8 = vI (List.length p0 : Int) ∧ s.t 9 = vI v9 ∧ s.h 100006 = (u6, oW 104 11 M.bJ.en r6)) ∧ hD p0 m v9 r6 = some r
 have e1 := @hD.eq_2
 unfold sZ at h
 exact sgo 20 [.tmp 2] Tryz.func98
instance : bD 98 (type_of% @c98) := ⟨@c98⟩
theorem c99 (p0 r) (h : rL p0 = some r) : Sc 99 [aX (M.aQ.en p0)] [(true, M.aQ.rs r)] := by
 unfold rL at h
 exact sgo 8 [.cell 2 43] Tryz.func99
instance : bD 99 (type_of% @c99) := ⟨@c99⟩
theorem aP0 (p0 r) (h : nX p0 = some r) : Sc 100 [aX (M.Channel.en p0)] [(true, M.Channel.rs r)] := by
 unfold nX at h
 exact sgo 8 [.cell 2 46] Tryz.func100
instance : bD 100 (type_of% @aP0) := ⟨@aP0⟩
theorem aQX (p0 r) (h : jJ p0 = some r) : Sc 101 [aX (M.Site.en p0)] [(true, M.Site.rs r)] := by
 unfold jJ at h
 exact sgo 9 [.cell 2 75] Tryz.func101
instance : bD 101 (type_of% @aQX) := ⟨@aQX⟩
theorem aPb (p0 r) (h : qD p0 = some r) : Sc 102 [aX (M.Server.en p0)] [(true, M.Server.rs r)] := by
 unfold qD at h
 exact sgo 15 [.cell 2 145] Tryz.func102
instance : bD 102 (type_of% @aPb) := ⟨@aPb⟩
theorem c36 (p0 r) (h : rK p0 = some r) : Sc 36 [aX (M.World.en p0)] [(true, M.World.rs r)] := by
 have i1 := fun (x1 : M.aK) (x3 : (List M.bJ)) (x5 : M.aQ) (x7 : M.Channel) => aJb [.b 3 8 7050000 75 4] fun m s => ∃ v29 : Int, ∃ r50000 : List M.Site, ∃ u50000 : Nat, (s.t 1 = vP 1 1 0 ∧ s.t 2 = vP 2 1 0 ∧ s.t 3 = vP 3 1 0 ∧ s.t 27 = vL M.Site.en p0.Sites ∧ s.t 28 = vI (List.length p0.Sites : Int) ∧ s.t 29 = vI v29 ∧ s.h 1 = (1, oX 50 (M.World.en p0)) ∧ s.h 2 = (1, oB 50 [cI 0, cB false, cI 0, .nil, .nil, cI 0, .nil, .nil, .nil, .nil]) ∧ s.h 3 = (1, oB 50 [cI p0.Now, cB p0.Online, cI p0.Device, .row 100011 1, .row 100015 1, cI p0.NextPage, .row 100019 1, .row 100023 1, .row 7050000 u50000, cL M.Server.en p0.Servers]) ∧ s.h 100011 = (1, oW 211 24 M.aE.en x1.Buckets) ∧ s.h 100015 = (1, oW 104 11 M.bJ.en x3) ∧ s.h 100019 = (1, oW 186 4 M.bY.en x5.Locks) ∧ s.h 100023 = (1, oW 183 3 M.fA.en x7.Mails) ∧ s.h 7050000 = (u50000, oW 75 4 M.Site.en r50000)) ∧ fS p0 x1 x3 x5 x7 m v29 r50000 = some r
 have e1 := @fS.eq_2
 have i2 := fun (x1 : M.aK) (x3 : (List M.bJ)) (x5 : M.aQ) (x7 : M.Channel) (r50000 : List M.Site) (u50000 : Nat) => aJb [.b 3 9 7050100 145 5] fun m s => ∃ v45 : Int, ∃ r50100 : List M.Server, ∃ u50100 : Nat, (s.t 2 = vP 2 1 0 ∧ s.t 3 = vP 3 1 0 ∧ s.t 43 = vL M.Server.en p0.Servers ∧ s.t 44 = vI (List.length p0.Servers : Int) ∧ s.t 45 = vI v45 ∧ s.h 2 = (1, oB 50 [cI 0, cB false, cI 0, .nil, .nil, cI 0, .nil, .nil, .nil, .nil]) ∧ s.h 3 = (1, oB 50 [cI p0.Now, cB p0.Online, cI p0.Device, .row 100011 1, .row 100015 1, cI p0.NextPage, .row 100019 1, .row 100023 1, .row 7050000 u50000, .row 7050100 u50100]) ∧ s.h 100011 = (1, oW 211 24 M.aE.en x1.Buckets) ∧ s.h 100015 = (1, oW 104 11 M.bJ.en x3) ∧ s.h 100019 = (1, oW 186 4 M.bY.en x5.Locks) ∧ s.h 100023 = (1, oW 183 3 M.fA.en x7.Mails) ∧ s.h 7050000 = (u50000, oW 75 4 M.Site.en r50000) ∧ s.h 7050100 = (u50100, oW 145 5 M.Server.en r50100)) ∧ eT p0 x1 x3 x5 x7 r50000 m v45 r50100 = some r
 have e2 := @eT.eq_2
 unfold rK at h
 exact sgo 58 [.cell 2 50] Tryz.func36
instance : bD 36 (type_of% @c36) := ⟨@c36⟩
theorem aPV (p0 p1 r) (h : nJ p0 p1 = some r) : Sc 103 [aL enS p0, aS p1] [rI r] := by
 have i1 := inv fun m s => ∃ v8 : Int, (s.t 0 = vL enS p0 ∧ s.t 1 = vS p1 ∧ s.t 7 = vI (List.length p0 : Int) ∧ s.t 8 = vI v8) ∧ eL p0 p1 m v8 = some r
 have e1 := @eL.eq_2
 unfold nJ at h
 exact sgo 19 [.tmp 4] Tryz.func103
instance : bD 103 (type_of% @aPV) := ⟨@aPV⟩
theorem c37 (p0 r) (h : lD p0 = some r) : Sc 37 [aS p0] [rI r] := by
 unfold lD at h
 exact sgo 6 [.tmp 2] Tryz.func37
instance : bD 37 (type_of% @c37) := ⟨@c37⟩
theorem aLy (p0 p1 p2 r) (h : aZ p0 p1 p2 = some r) : Sc 104 [aI p0, aI p1, aI p2] [rB r] := by
 unfold aZ at h
 exact sgo 15 [.tmp 6] Tryz.func104
instance : bD 104 (type_of% @aLy) := ⟨@aLy⟩
theorem aPc (p0 p1 p2 r) (h : wJ p0 p1 p2 = some r) : Sc 259 [aS p0, aI p1, aB p2] [rB r] := by
 have i1 := inv fun m s => ∃ v7 : Int, (s.t 0 = vS p0 ∧ s.t 1 = vI p1 ∧ s.t 2 = vB p2 ∧ s.t 7 = vI v7) ∧ fW p0 p1 p2 m v7 = some r
 have e1 := @fW.eq_2
 unfold wJ at h
 exact sgo 38 [.tmp 6] Tryz.func259
instance : bD 259 (type_of% @aPc) := ⟨@aPc⟩
theorem aL9 (p0 r) (h : bS p0 = some r) : Sc 188 [aS p0] [rB r] := by
 unfold bS at h
 exact sgo 5 [.tmp 2] Tryz.func188
instance : bD 188 (type_of% @aL9) := ⟨@aL9⟩
theorem aRs (p0 r) (h : nK p0 = some r) : Sc 254 [aX (M.Registration.en p0)] [rB r] := by
  unfold nK at h
  simp only [EN]
  refine sgn 37 [.tmp 2] Tryz.func254 fun base wd => ?_
  refine sq (rn ?_)
  refine an (sq (rn ?_))
  refine an (sq (sq (rn ?_)))
  refine an (bk ?_)
  refine cu (fun s => s.t 1 = vP 1 1 0 ∧ s.t 3 = vI 0 ∧ s.t 12 = vR 100012 1 ∧ s.t 13 = vI ((3 : Nat) : Int) ∧ s.t 14 = vI 0 ∧ s.h 1 = (1, oX 194 (M.Registration.en p0)) ∧ s.h 100012 = (1, oW 3 1 enI ([p0.Active, p0.Waiting, p0.Installing])) ∧ True) ?_
  rintro s1 ⟨f2, f3, f4, f5, f6, f7, f8, _⟩
  refine pZ (fun m s => ∃ v3 : Int, ∃ v14 : Int, s.t 1 = vP 1 1 0 ∧ s.t 3 = vI v3 ∧ s.t 12 = vR 100012 1 ∧ s.t 13 = vI ((3 : Nat) : Int) ∧ s.t 14 = vI v14 ∧ s.h 1 = (1, oX 194 (M.Registration.en p0)) ∧ s.h 100012 = (1, oW 3 1 enI ([p0.Active, p0.Waiting, p0.Installing])) ∧ cP p0 m v3 v14 = some r) fuel ?_ ?_
  · refine ⟨0, 0, ?_, ?_, ?_, ?_, ?_, ?_, ?_, h⟩
    all_goals simp +decide only [F, reduceIte, Nat.reduceAdd, Bool.not_true, Bool.not_false, EN, *, -h]
  rintro mL1 s9 ⟨v3, v14, f10, f11, f12, f13, f14, f15, f16, h⟩
  rcases mL1 with _ | mL1
  · exact absurd h (by simp [cP])
  simp only [cP] at h
  refine sq (rn ?_)
  refine an (sq ?_)
  rcases aA8 (decide (v14 < ((3 : Nat) : Int))) with b17 | b17
  · replace h := bH b17 h
    refine cf (xt (qM (tT (aAf (an (sq ?_))))))
    obtain ⟨x28, h29, h⟩ := bind_some h
    refine rn1 (aL9 _ _ h29) ?_
    refine an (rt ?_)
    cases h
    simp [Ret, TB, EN, *]
  replace h := bI b17 h
  refine ct (sk (an (sq (bk (sq ?_)))))
  obtain ⟨x18, h19, h⟩ := bind_some h
  obtain ⟨q20, q21, q22⟩ := aR h19
  have q20m := congrArg (Option.map enI) (show ([p0.Active, p0.Waiting, p0.Installing])[v14.toNat]? = some x18 by assumption)
  simp only [← List.getElem?_map, List.map_cons, List.map_nil, Option.map_some, EN] at q20m
  simp only [List.length_cons, List.length_nil, Nat.reduceAdd] at q22
  refine rn ?_
  refine an (sq (sq ?_))
  obtain ⟨x23, h24, h⟩ := bind_some h
  rcases eF (!x23) with b25 | b25
  · replace h := bI b25 h
    refine rn1 (aLy _ _ _ _ h24) ?_
    refine an (ct (sq (rn ?_)))
    refine an (rt ?_)
    cases h
    simp [Ret, TB, EN, *]
  replace h := bH b25 h
  rcases aA8 (x18 != 0) with b26 | b26
  · replace h := bH b26 h
    refine rn1 (aLy _ _ _ _ h24) ?_
    refine an (cf (sk (an (rn ?_))))
    refine ab (an (rn ?_))
    refine yW ⟨mL1, by omega, (if x18 > v3 then x18 else v3), (IntKind.i64.wrap (v14 + 1)), ?_, ?_, ?_, ?_, ?_, ?_, ?_, h⟩
    all_goals simp +decide only [F, reduceIte, Nat.reduceAdd, Bool.not_true, Bool.not_false, EN, *, -h]
  replace h := bI b26 h
  refine rn1 (aLy _ _ _ _ h24) ?_
  refine an ?_
  rcases eF (decide (x18 ≤ v3)) with b27 | b27
  · replace h := bI b27 h
    refine ct (sq (rn ?_))
    refine an (rt ?_)
    cases h
    simp [Ret, TB, EN, *]
  replace h := bH b27 h
  refine cf (sk (an (rn ?_)))
  refine ab (an (rn ?_))
  refine yW ⟨mL1, by omega, (if x18 > v3 then x18 else v3), (IntKind.i64.wrap (v14 + 1)), ?_, ?_, ?_, ?_, ?_, ?_, ?_, h⟩
  all_goals simp +decide only [F, reduceIte, Nat.reduceAdd, Bool.not_true, Bool.not_false, EN, *, -h]
instance : bD 254 (type_of% @aRs) := ⟨@aRs⟩
theorem aOy (p0 c0 c1 r) (h : sO p0 c0 c1 = some r) : Sc 342 [aX (M.Cached.en p0), (false, [.ptr [.str c0]]), (false, [.ptr [.str c1]])] [rB r] := by
 unfold sO at h
 exact sgo 15 [.tmp 4] Tryz.func342
instance : bD 342 (type_of% @aOy) := ⟨@aOy⟩
theorem aO8 (p0 : List M.Cached) (p1 : M.Cached → Option Bool) (f1_ : FuncId) (k1_ : List D) (hp1 : ∀ z0 r, p1 z0 = some r → tB Tryz.prog f1_ ((true, M.Cached.en z0) ::  k1_.map fun c => (false, [c])) [(false, [.ro (.bool r)])]) (r : Int) (h : gS p0 p1 = some r) : Sc 341 [(false, [.sl (List.map M.Cached.en p0)]), (false, [.fn f1_ k1_])] [rI r] := by
  unfold gS at h
  simp only [EN]
  refine sgn 19 [.tmp 4] Tryz.func341 fun base wd => ?_
  refine sq (rn ?_)
  refine an (sq (sq (rn ?_)))
  refine an (bk ?_)
  refine pZ (fun m s => ∃ v8 : Int, s.t 0 = vL M.Cached.en p0 ∧ s.t 1 = .v false [.dat (.fn f1_ k1_)] ∧ s.t 7 = vI (List.length p0 : Int) ∧ s.t 8 = vI v8 ∧ bQ p0 p1 m v8 = some r) fuel ?_ ?_
  · refine ⟨0, ?_, ?_, ?_, ?_, h⟩
    all_goals simp +decide only [F, reduceIte, Nat.reduceAdd, Bool.not_true, Bool.not_false, EN, *, -h]
  rintro mL1 s1 ⟨v8, f2, f3, f4, f5, h⟩
  rcases mL1 with _ | mL1
  · exact absurd h (by simp [bQ])
  simp only [bQ] at h
  refine sq (rn ?_)
  refine an (sq ?_)
  rcases aA8 (decide (v8 < (List.length p0 : Int))) with b6 | b6
  · replace h := bH b6 h
    refine cf (xt (qM (tT (aAf (an (sq (rn ?_)))))))
    refine an (rt ?_)
    cases h
    simp [Ret, TB, EN, *]
  replace h := bI b6 h
  refine ct (sk (an (sq (bk (sq (rn ?_))))))
  refine an (sq ?_)
  obtain ⟨x7, h8, h⟩ := bind_some h
  obtain ⟨q9, q10, q11⟩ := aR h8
  obtain ⟨x12, h13, h⟩ := bind_some h
  refine rn1 (hp1 x7 x12 h13) ?_
  refine an ?_
  rcases eF x12 with b14 | b14
  · replace h := bI b14 h
    refine ct (sq (rn ?_))
    refine an (rt ?_)
    cases h
    simp [Ret, TB, EN, *]
  replace h := bH b14 h
  refine cf (sk (ab (an (rn ?_))))
  refine yW ⟨mL1, by omega, (IntKind.i64.wrap (v8 + 1)), ?_, ?_, ?_, ?_, h⟩
  all_goals simp +decide only [F, reduceIte, Nat.reduceAdd, Bool.not_true, Bool.not_false, EN, *, -h]
instance : bD 341 (type_of% @aO8) := ⟨@aO8⟩
theorem aSn (p0 p1 p2 r) (h : tN p0 p1 p2 = some r) : Sc 282 [aX (M.Cache.en p0), aS p1, aS p2] [rI r] := by
  unfold tN at h
  simp only [EN]
  refine sgn 11 [.tmp 6] Tryz.func282 fun base wd => ?_
  refine sq (rn ?_)
  refine an (sq ?_)
  obtain ⟨x1, h2, h⟩ := bind_some h
  refine rn1 (aO8 p0.Entries (fun z0 => sO z0 p1 p2) 342 [.ptr [.str p1], .ptr [.str p2]] (fun z0 r hr => aOy z0 p1 p2 r hr) x1 h2) ?_
  refine an (rt ?_)
  cases h
  simp [Ret, TB, EN, *]
instance : bD 282 (type_of% @aSn) := ⟨@aSn⟩
theorem aPz (p0 r) (h : lB p0 = some r) : Sc 318 [aX (M.Response.en p0)] [rB r] := by
 unfold lB at h
 exact sgo 22 [.tmp 2] Tryz.func318
instance : bD 318 (type_of% @aPz) := ⟨@aPz⟩
theorem aSB (p0 r) (h : pO p0 = some r) : Sc 255 [aX (M.aT.en p0)] [rB r] := by
 have i1 := inv fun m s => ∃ v10 : Int, (s.t 1 = vP 1 1 0 ∧ s.t 8 = vL M.Cache.en p0.Caches ∧ s.t 9 = vI (List.length p0.Caches : Int) ∧ s.t 10 = vI v10 ∧ s.h 1 = (1, oX 197 (M.aT.en p0))) ∧ eB p0 m v10 = some r
 have e1 := @eB.eq_2
 have i2 := fun (v10 : Int) (x8 : M.Cache) (k25 : Int → Option Bool) (s1 : St) => inv fun m s => ∃ v44_L2 : Int, (s.t 1 = vP 1 1 0 ∧ s.t 4 = vP 4 ((s1.h 4).1 + 1) 0 ∧ s.t 8 = vL M.Cache.en p0.Caches ∧ s.t 9 = vI (List.length p0.Caches : Int) ∧ s.t 10 = vI v10 ∧ s.t 42 = vL M.Cached.en x8.Entries ∧ s.t 43 = vI (List.length x8.Entries : Int) ∧ s.t 44 = vI v44_L2 ∧ s.h 1 = (1, oX 197 (M.aT.en p0)) ∧ s.h 4 = (((s1.h 4).1 + 1), oX 342 (M.Cache.en x8))) ∧ eC x8 k25 m v44_L2 = some r
 have e2 := @eC.eq_2
 have i3 := fun (v10 : Int) (x8 : M.Cache) (k57 : Int → Option Bool) (s1 : St) => inv fun m s => ∃ v44_L3 : Int, (s.t 1 = vP 1 1 0 ∧ s.t 4 = vP 4 ((s1.h 4).1 + 1) 0 ∧ s.t 8 = vL M.Cache.en p0.Caches ∧ s.t 9 = vI (List.length p0.Caches : Int) ∧ s.t 10 = vI v10 ∧ s.t 42 = vL M.Cached.en x8.Entries ∧ s.t 43 = vI (List.length x8.Entries : Int) ∧ s.t 44 = vI v44_L3 ∧ s.h 1 = (1, oX 197 (M.aT.en p0)) ∧ s.h 4 = (((s1.h 4).1 + 1), oX 342 (M.Cache.en x8))) ∧ eE x8 k57 m v44_L3 = some r
 have e3 := @eE.eq_2
 unfold pO at h
 exact sgo 81 [.tmp 2] Tryz.func255
instance : bD 255 (type_of% @aSB) := ⟨@aSB⟩
theorem aS1 (p0 r) (h : rP p0 = some r) : Sc 326 [aS p0] [rB r] := by
 have i1 := inv fun m s => ∃ v3 : Int, (s.t 0 = vS p0 ∧ s.t 3 = vI v3) ∧ dO p0 m v3 = some r
 have e1 := @dO.eq_2
 unfold rP at h
 exact sgo 36 [.tmp 2] Tryz.func326
instance : bD 326 (type_of% @aS1) := ⟨@aS1⟩
theorem aOe (p0 r) (h : nL p0 = some r) : Sc 260 [aX (M.Key.en p0)] [rB r] := by
 unfold nL at h
 exact sgo 39 [.tmp 2] Tryz.func260
instance : bD 260 (type_of% @aOe) := ⟨@aOe⟩
theorem aQV (p0 r) (h : pP p0 = some r) : Sc 261 [aX (M.aU.en p0)] [rB r] := by
 have i1 := inv fun m s => ∃ v8 : Int, (s.t 1 = vP 1 1 0 ∧ s.t 6 = vL M.Field.en p0.Fields ∧ s.t 7 = vI (List.length p0.Fields : Int) ∧ s.t 8 = vI v8 ∧ s.h 1 = (1, oX 285 (M.aU.en p0))) ∧ fP p0 m v8 = some r
 have e1 := @fP.eq_2
 unfold pP at h
 exact sgo 44 [.tmp 2] Tryz.func261
instance : bD 261 (type_of% @aQV) := ⟨@aQV⟩
theorem aSv (p0 p1 r) (h : nA p0 p1 = some r) : Sc 327 [aI p0, aI p1] [rI r] := by
 unfold nA at h
 exact sgo 13 [.tmp 4] Tryz.func327
instance : bD 327 (type_of% @aSv) := ⟨@aSv⟩
set_option maxRecDepth 100000 in
set_option maxHeartbeats 4000000 in
theorem aQj (p0 : ByteArray) (p1 : ByteArray) (r : Int) (h : iM p0 p1 = some r) : tB Tryz.prog 374 [(false, [.str p0]), (false, [.str p1])] [(false, [.ro (.int .i64 r)])] := by
  refine aJF Tryz.func374 rfl (by decide +kernel) fun w => ?_
  cases h
  go_enter Tryz.func374, Tryz.ntmps374
  go_wp2
  rw [run_callFunc_extern Tryz.func398 (by kernel_rfl) (by kernel_rfl) (by kernel_rfl) (e := Extern.BytealgCompare.compare) (by kernel_rfl), Lib.run_compareString]
  simp only [Result.andThen]
  rw [Oper.upon_value]
  go_wp2
  go_ret
  exact ⟨rfl, rfl⟩
instance : bD 374 (type_of% @aQj) := ⟨@aQj⟩
theorem aPi (p0 p1 r) (h : wF p0 p1 = some r) : Sc 328 [aS p0, aS p1] [rI r] := by
 unfold wF at h
 exact sgo 8 [.tmp 4] Tryz.func328
instance : bD 328 (type_of% @aPi) := ⟨@aPi⟩
theorem aRB (p0 p1 r) (h : jQ p0 p1 = some r) : Sc 262 [aX (M.Key.en p0), aX (M.Key.en p1)] [rI r] := by
 unfold jQ at h
 exact sgo 36 [.tmp 4] Tryz.func262
instance : bD 262 (type_of% @aRB) := ⟨@aRB⟩
theorem aNQ (p0 r) (h : nZ p0 = some r) : Sc 192 [aX (M.aH.en p0)] [rB r] := by
 have i1 := inv fun m s => ∃ v8 : Int, (s.t 1 = vP 1 1 0 ∧ s.t 6 = vL M.Item.en p0.Items ∧ s.t 7 = vI (List.length p0.Items : Int) ∧ s.t 8 = vI v8 ∧ s.h 1 = (1, oX 141 (M.aH.en p0))) ∧ gA p0 m v8 = some r
 have e1 := @gA.eq_2
 unfold nZ at h
 exact sgo 55 [.tmp 2] Tryz.func192
instance : bD 192 (type_of% @aNQ) := ⟨@aNQ⟩
theorem aOj (p0 c0 r) (h : nE p0 c0 = some r) : Sc 366 [aX (M.aH.en p0), (false, [.ptr [.str c0]])] [rB r] := by
 unfold nE at h
 exact sgo 8 [.tmp 3] Tryz.func366
instance : bD 366 (type_of% @aOj) := ⟨@aOj⟩
theorem aPB (p0 : List M.aH) (p1 : M.aH → Option Bool) (f1_ : FuncId) (k1_ : List D) (hp1 : ∀ z0 r, p1 z0 = some r → tB Tryz.prog f1_ ((true, M.aH.en z0) ::  k1_.map fun c => (false, [c])) [(false, [.ro (.bool r)])]) (r : Int) (h : hT p0 p1 = some r) : Sc 365 [(false, [.sl (List.map M.aH.en p0)]), (false, [.fn f1_ k1_])] [rI r] := by
  unfold hT at h
  simp only [EN]
  refine sgn 19 [.tmp 4] Tryz.func365 fun base wd => ?_
  refine sq (rn ?_)
  refine an (sq (sq (rn ?_)))
  refine an (bk ?_)
  refine pZ (fun m s => ∃ v8 : Int, s.t 0 = vL M.aH.en p0 ∧ s.t 1 = .v false [.dat (.fn f1_ k1_)] ∧ s.t 7 = vI (List.length p0 : Int) ∧ s.t 8 = vI v8 ∧ bT p0 p1 m v8 = some r) fuel ?_ ?_
  · refine ⟨0, ?_, ?_, ?_, ?_, h⟩
    all_goals simp +decide only [F, reduceIte, Nat.reduceAdd, Bool.not_true, Bool.not_false, EN, *, -h]
  rintro mL1 s1 ⟨v8, f2, f3, f4, f5, h⟩
  rcases mL1 with _ | mL1
  · exact absurd h (by simp [bT])
  simp only [bT] at h
  refine sq (rn ?_)
  refine an (sq ?_)
  rcases aA8 (decide (v8 < (List.length p0 : Int))) with b6 | b6
  · replace h := bH b6 h
    refine cf (xt (qM (tT (aAf (an (sq (rn ?_)))))))
    refine an (rt ?_)
    cases h
    simp [Ret, TB, EN, *]
  replace h := bI b6 h
  refine ct (sk (an (sq (bk (sq (rn ?_))))))
  refine an (sq ?_)
  obtain ⟨x7, h8, h⟩ := bind_some h
  obtain ⟨q9, q10, q11⟩ := aR h8
  obtain ⟨x12, h13, h⟩ := bind_some h
  refine rn1 (hp1 x7 x12 h13) ?_
  refine an ?_
  rcases eF x12 with b14 | b14
  · replace h := bI b14 h
    refine ct (sq (rn ?_))
    refine an (rt ?_)
    cases h
    simp [Ret, TB, EN, *]
  replace h := bH b14 h
  refine cf (sk (ab (an (rn ?_))))
  refine yW ⟨mL1, by omega, (IntKind.i64.wrap (v8 + 1)), ?_, ?_, ?_, ?_, h⟩
  all_goals simp +decide only [F, reduceIte, Nat.reduceAdd, Bool.not_true, Bool.not_false, EN, *, -h]
instance : bD 365 (type_of% @aPB) := ⟨@aPB⟩
theorem aOz (p0 p1 r) (h : rN p0 p1 = some r) : Sc 319 [aX (M.Database.en p0), aS p1] [rI r] := by
  unfold rN at h
  simp only [EN]
  refine sgn 9 [.tmp 4] Tryz.func319 fun base wd => ?_
  refine sq (rn ?_)
  refine an (sq ?_)
  obtain ⟨x1, h2, h⟩ := bind_some h
  refine rn1 (aPB p0.Stores (fun z0 => nE z0 p1) 366 [.ptr [.str p1]] (fun z0 r hr => aOj z0 p1 r hr) x1 h2) ?_
  refine an (rt ?_)
  cases h
  simp [Ret, TB, EN, *]
instance : bD 319 (type_of% @aOz) := ⟨@aOz⟩
theorem aQ5 (p0 p1 r) (h : iE p0 p1 = some r) : Sc 367 [aL M.aA.en p0, aX (M.aA.en p1)] [rI r] := by
 have i1 := inv fun m s => ∃ v8 : Int, (s.t 0 = vL M.aA.en p0 ∧ s.t 3 = vP 3 1 0 ∧ s.t 7 = vI (List.length p0 : Int) ∧ s.t 8 = vI v8 ∧ s.h 3 = (1, oX 345 (M.aA.en p1))) ∧ dA p0 p1 m v8 = some r
 have e1 := @dA.eq_2
 unfold iE at h
 exact sgo 19 [.tmp 4] Tryz.func367
instance : bD 367 (type_of% @aQ5) := ⟨@aQ5⟩
theorem aPC (p0 p1 r) (h : gH p0 p1 = some r) : Sc 320 [aL M.aA.en p0, aX (M.aA.en p1)] [rB r] := by
 unfold gH at h
 exact sgo 9 [.tmp 4] Tryz.func320
instance : bD 320 (type_of% @aPC) := ⟨@aPC⟩
theorem aOv (p0 c0 r) (h : rH p0 c0 = some r) : Sc 411 [aX (M.Field.en p0), (false, [.ptr [.str c0]])] [rB r] := by
 unfold rH at h
 exact sgo 8 [.tmp 3] Tryz.func411
instance : bD 411 (type_of% @aOv) := ⟨@aOv⟩
theorem aOi (p0 : List M.Field) (p1 : M.Field → Option Bool) (f1_ : FuncId) (k1_ : List D) (hp1 : ∀ z0 r, p1 z0 = some r → tB Tryz.prog f1_ ((true, M.Field.en z0) ::  k1_.map fun c => (false, [c])) [(false, [.ro (.bool r)])]) (r : Int) (h : hU p0 p1 = some r) : Sc 410 [(false, [.sl (List.map M.Field.en p0)]), (false, [.fn f1_ k1_])] [rI r] := by
  unfold hU at h
  simp only [EN]
  refine sgn 19 [.tmp 4] Tryz.func410 fun base wd => ?_
  refine sq (rn ?_)
  refine an (sq (sq (rn ?_)))
  refine an (bk ?_)
  refine pZ (fun m s => ∃ v8 : Int, s.t 0 = vL M.Field.en p0 ∧ s.t 1 = .v false [.dat (.fn f1_ k1_)] ∧ s.t 7 = vI (List.length p0 : Int) ∧ s.t 8 = vI v8 ∧ bU p0 p1 m v8 = some r) fuel ?_ ?_
  · refine ⟨0, ?_, ?_, ?_, ?_, h⟩
    all_goals simp +decide only [F, reduceIte, Nat.reduceAdd, Bool.not_true, Bool.not_false, EN, *, -h]
  rintro mL1 s1 ⟨v8, f2, f3, f4, f5, h⟩
  rcases mL1 with _ | mL1
  · exact absurd h (by simp [bU])
  simp only [bU] at h
  refine sq (rn ?_)
  refine an (sq ?_)
  rcases aA8 (decide (v8 < (List.length p0 : Int))) with b6 | b6
  · replace h := bH b6 h
    refine cf (xt (qM (tT (aAf (an (sq (rn ?_)))))))
    refine an (rt ?_)
    cases h
    simp [Ret, TB, EN, *]
  replace h := bI b6 h
  refine ct (sk (an (sq (bk (sq (rn ?_))))))
  refine an (sq ?_)
  obtain ⟨x7, h8, h⟩ := bind_some h
  obtain ⟨q9, q10, q11⟩ := aR h8
  obtain ⟨x12, h13, h⟩ := bind_some h
  refine rn1 (hp1 x7 x12 h13) ?_
  refine an ?_
  rcases eF x12 with b14 | b14
  · replace h := bI b14 h
    refine ct (sq (rn ?_))
    refine an (rt ?_)
    cases h
    simp [Ret, TB, EN, *]
  replace h := bH b14 h
  refine cf (sk (ab (an (rn ?_))))
  refine yW ⟨mL1, by omega, (IntKind.i64.wrap (v8 + 1)), ?_, ?_, ?_, ?_, h⟩
  all_goals simp +decide only [F, reduceIte, Nat.reduceAdd, Bool.not_true, Bool.not_false, EN, *, -h]
instance : bD 410 (type_of% @aOi) := ⟨@aOi⟩
theorem aR6 (p0 p1 r) (h : aAe p0 p1 = some r) : Sc 395 [aX (M.aU.en p0), aS p1] [rI r] := by
  unfold aAe at h
  simp only [EN]
  refine sgn 9 [.tmp 4] Tryz.func395 fun base wd => ?_
  refine sq (rn ?_)
  refine an (sq ?_)
  obtain ⟨x1, h2, h⟩ := bind_some h
  refine rn1 (aOi p0.Fields (fun z0 => rH z0 p1) 411 [.ptr [.str p1]] (fun z0 r hr => aOv z0 p1 r hr) x1 h2) ?_
  refine an (rt ?_)
  cases h
  simp [Ret, TB, EN, *]
instance : bD 395 (type_of% @aR6) := ⟨@aR6⟩
theorem aO2 (p0 p1 r) (h : iB p0 p1 = some r) : Sc 369 [aX (M.aU.en p0), aS p1] [rI r.1, rB r.2] := by
 unfold iB at h
 exact sgo 18 [.tmp 4, .tmp 5] Tryz.func369
instance : bD 369 (type_of% @aO2) := ⟨@aO2⟩
theorem aOl (p0 p1 p2 r) (h : nD p0 p1 p2 = some r) : Sc 393 [aX (M.Item.en p0), aX (M.Item.en p1), aS p2] [rB r] := by
 unfold nD at h
 exact sgo 41 [.tmp 6] Tryz.func393
instance : bD 393 (type_of% @aOl) := ⟨@aOl⟩
end Go.Proofs.YtecmnmaaopkdfaaGreat.gen
