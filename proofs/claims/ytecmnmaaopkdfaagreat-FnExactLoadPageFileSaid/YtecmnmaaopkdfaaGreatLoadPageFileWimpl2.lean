/-
  Helper text. No conditions.
-/
import Derived.Test.YtecmnmaaopkdfaaGreatLoadPageFileTi
import Derived.Test.YtecmnmaaopkdfaaGreatLoadPageFileWimpl0
import Derived.Test.YtecmnmaaopkdfaaGreatLoadPageFileWimpl1
namespace Go.Proofs.YtecmnmaaopkdfaaGreat.gen
open Go Go.Sh
set_option linter.unusedVariables false
set_option linter.unusedSimpArgs false
set_option maxRecDepth 20000
set_option maxHeartbeats 4000000
theorem aTe (p0 r) (h : sP p0 = some r) : Sc 109 [aX (M.Site.en p0)] [rB r] := by
 have i1 := inv fun m s => ∃ v8 : Int, (s.t 1 = vP 1 1 0 ∧ s.t 6 = vL enS p0.Files ∧ s.t 7 = vI (List.length p0.Files : Int) ∧ s.t 8 = vI v8 ∧ s.h 1 = (1, oX 75 (M.Site.en p0))) ∧ hT p0 m v8 = some r
 have e1 := @hT.eq_2
 unfold sP at h
 exact sgo 45 [.tmp 2] Tryz.func109
instance : bC 109 (type_of% @aTe) := ⟨@aTe⟩
theorem aSz (p0 p1 r) (h : iI p0 p1 = some r) : Sc 103 [aL enS p0, aS p1] [rI r] := by
 have i1 := inv fun m s => ∃ v8 : Int, (s.t 0 = vL enS p0 ∧ s.t 1 = vS p1 ∧ s.t 7 = vI (List.length p0 : Int) ∧ s.t 8 = vI v8) ∧ bO p0 p1 m v8 = some r
 have e1 := @bO.eq_2
 unfold iI at h
 exact sgo 19 [.tmp 4] Tryz.func103
instance : bC 103 (type_of% @aSz) := ⟨@aSz⟩
theorem c37 (p0 r) (h : jV p0 = some r) : Sc 37 [aS p0] [rI r] := by
 unfold jV at h
 exact sgo 6 [.tmp 2] Tryz.func37
instance : bC 37 (type_of% @c37) := ⟨@c37⟩
theorem aRR (p0 r) (h : wP p0 = some r) : Sc 110 [aX (M.Server.en p0)] [rB r] := by
 have i1 := inv fun m s => ∃ v10 : Int, (s.t 1 = vP 1 1 0 ∧ s.t 8 = vL M.aH.en p0.aH ∧ s.t 9 = vI (List.length p0.aH : Int) ∧ s.t 10 = vI v10 ∧ s.h 1 = (1, oX 145 (M.Server.en p0))) ∧ fW p0 m v10 = some r
 have e1 := @fW.eq_2
 have i2 := inv fun m s => ∃ v45 : Int, (s.t 1 = vP 1 1 0 ∧ s.t 43 = vL M.aW.en p0.Changes ∧ s.t 44 = vI (List.length p0.Changes : Int) ∧ s.t 45 = vI v45 ∧ s.h 1 = (1, oX 145 (M.Server.en p0))) ∧ hJ p0 m v45 = some r
 have e2 := @hJ.eq_2
 unfold wP at h
 exact sgo 68 [.tmp 2] Tryz.func110
instance : bC 110 (type_of% @aRR) := ⟨@aRR⟩
theorem c38 (p0 r) (h : yX p0 = some r) : Sc 38 [aX (M.World.en p0)] [rB r] := by
 have i1 := inv fun m s => ∃ v56 : Int, (s.t 1 = vP 1 1 0 ∧ s.t 54 = vL M.bG.en p0.Pages ∧ s.t 55 = vI (List.length p0.Pages : Int) ∧ s.t 56 = vI v56 ∧ s.h 1 = (1, oX 50 (M.World.en p0))) ∧ eQ p0 m v56 = some r
 have e1 := @eQ.eq_2
 have i2 := inv fun m s => ∃ v101 : Int, (s.t 1 = vP 1 1 0 ∧ s.t 99 = vL M.Site.en p0.Sites ∧ s.t 100 = vI (List.length p0.Sites : Int) ∧ s.t 101 = vI v101 ∧ s.h 1 = (1, oX 50 (M.World.en p0))) ∧ gL p0 m v101 = some r
 have e2 := @gL.eq_2
 unfold yX at h
 exact sgo 126 [.tmp 2] Tryz.func38
instance : bC 38 (type_of% @c38) := ⟨@c38⟩
theorem aR1 (p0 p1 p2 r) (h : aAq p0 p1 p2 = some r) : Sc 152 [aX (M.World.en p0), aS p1, aS p2] [(true, M.aE.ra r.1), rB r.2] := by
 unfold aAq at h
 exact sgo 23 [.cell 6 211, .tmp 7] Tryz.func152
instance : bC 152 (type_of% @aR1) := ⟨@aR1⟩
theorem aSk (r) (h : bS = some r) : Sc 153 [] [(true, M.Response.rs r)] := by
 unfold bS at h
 exact sgo 2 [.cell 0 110] Tryz.func153
instance : bC 153 (type_of% @aSk) := ⟨@aSk⟩
theorem aTU (p0 p1 r) (h : aBp p0 p1 = some r) : Sc 155 [aX (M.World.en p0), aS p1] [(true, M.Site.ra r)] := by
 unfold aBp at h
 exact sgo 23 [.cell 4 75] Tryz.func155
instance : bC 155 (type_of% @aTU) := ⟨@aTU⟩
theorem aQX (p0 c0 r) (h : oL p0 c0 = some r) : Sc 340 [aX (M.Cache.en p0), (false, [.ptr [.int .i64 c0]])] [rB r] := by
 unfold oL at h
 exact sgo 8 [.tmp 3] Tryz.func340
instance : bC 340 (type_of% @aQX) := ⟨@aQX⟩
theorem aQj (p0 : List M.Cache) (p1 : M.Cache → Option Bool) (f1_ : FuncId) (k1_ : List D) (hp1 : ∀ z0 r, p1 z0 = some r → rU Tryz.prog f1_ ((true, M.Cache.en z0) ::  k1_.map fun c => (false, [c])) [(false, [.ro (.bool r)])]) (r : Int) (h : iQ p0 p1 = some r) : Sc 339 [(false, [.sl (List.map M.Cache.en p0)]), (false, [.fn f1_ k1_])] [rI r] := by
  unfold iQ at h
  simp only [EN]
  refine sgn 19 [.tmp 4] Tryz.func339 fun base wd => ?_
  refine sq (rn ?_)
  refine an (sq (sq (rn ?_)))
  refine an (bk ?_)
  refine lR (fun m s => ∃ v8 : Int, s.t 0 = vL M.Cache.en p0 ∧ s.t 1 = .v false [.dat (.fn f1_ k1_)] ∧ s.t 7 = vI (List.length p0 : Int) ∧ s.t 8 = vI v8 ∧ bX p0 p1 m v8 = some r) fuel ?_ ?_
  · refine ⟨0, ?_, ?_, ?_, ?_, h⟩
    all_goals simp +decide only [F, reduceIte, Nat.reduceAdd, Bool.not_true, Bool.not_false, EN, *, -h]
  rintro mL1 s1 ⟨v8, f2, f3, f4, f5, h⟩
  rcases mL1 with _ | mL1
  · exact absurd h (by simp [bX])
  simp only [bX] at h
  refine sq (rn ?_)
  refine an (sq ?_)
  rcases aBO (decide (v8 < (List.length p0 : Int))) with b6 | b6
  · replace h := bI b6 h
    refine cf (xt (nE (pT (aAS (an (sq (rn ?_)))))))
    refine an (rt ?_)
    cases h
    simp [Ret, TB, EN, *]
  replace h := bJ b6 h
  refine ct (sk (an (sq (bk (sq (rn ?_))))))
  refine an (sq ?_)
  obtain ⟨x7, h8, h⟩ := bind_some h
  obtain ⟨q9, q10, q11⟩ := aT h8
  obtain ⟨x12, h13, h⟩ := bind_some h
  refine rn1 (hp1 x7 x12 h13) ?_
  refine an ?_
  rcases dH x12 with b14 | b14
  · replace h := bJ b14 h
    refine ct (sq (rn ?_))
    refine an (rt ?_)
    cases h
    simp [Ret, TB, EN, *]
  replace h := bI b14 h
  refine cf (sk (ab (an (rn ?_))))
  refine xX ⟨mL1, by omega, (IntKind.i64.wrap (v8 + 1)), ?_, ?_, ?_, ?_, h⟩
  all_goals simp +decide only [F, reduceIte, Nat.reduceAdd, Bool.not_true, Bool.not_false, EN, *, -h]
instance : bC 339 (type_of% @aQj) := ⟨@aQj⟩
theorem aR2 (p0 p1 r) (h : tK p0 p1 = some r) : Sc 281 [aX (M.aP.en p0), aI p1] [rI r] := by
  unfold tK at h
  simp only [EN]
  refine sgn 9 [.tmp 4] Tryz.func281 fun base wd => ?_
  refine sq (rn ?_)
  refine an (sq ?_)
  obtain ⟨x1, h2, h⟩ := bind_some h
  refine rn1 (aQj p0.Caches (fun z0 => oL z0 p1) 340 [.ptr [.int .i64 p1]] (fun z0 r hr => aQX z0 p1 r hr) x1 h2) ?_
  refine an (rt ?_)
  cases h
  simp [Ret, TB, EN, *]
instance : bC 281 (type_of% @aR2) := ⟨@aR2⟩
theorem aTP (p0 p1 p2 p3 r) (h : sB p0 p1 p2 p3 = some r) : Sc 215 [aX (M.aP.en p0), aI p1, aS p2, aS p3] [(true, M.Response.rs r.1), rB r.2] := by
 unfold sB at h
 exact sgo 40 [.cell 8 110, .tmp 9] Tryz.func215
instance : bC 215 (type_of% @aTP) := ⟨@aTP⟩
theorem aRx (p0 p1 r) (h : lP p0 p1 = some r) : Sc 284 [aX (M.Site.en p0), aI p1] [rB r] := by
 unfold lP at h
 exact sgo 24 [.tmp 4] Tryz.func284
instance : bC 284 (type_of% @aRx) := ⟨@aRx⟩
theorem aRv (p0 p1 r) (h : kS p0 p1 = some r) : Sc 343 [aL enS p0, aS p1] [rB r] := by
 unfold kS at h
 exact sgo 9 [.tmp 4] Tryz.func343
instance : bC 343 (type_of% @aRv) := ⟨@aRv⟩
theorem aSC (p0 p1 r) (h : zI p0 p1 = some r) : Sc 285 [aX (M.Site.en p0), aS p1] [rB r] := by
 unfold zI at h
 exact sgo 9 [.tmp 4] Tryz.func285
instance : bC 285 (type_of% @aSC) := ⟨@aSC⟩
theorem aRp (p0 r) (h : oE p0 = some r) : Sc 383 [aL enB p0] [rW 3 1 enI r] := by
 have i1 := inv fun m s => ∃ v11 : Int, ∃ r8 : List Int, ∃ u8 : Nat, (s.t 3 = vR 100008 u8 ∧ s.t 9 = vL enB p0 ∧ s.t 10 = vI (List.length p0 : Int) ∧ s.t 11 = vI v11 ∧ s.h 100008 = (u8, oW 3 1 enI r8)) ∧ gB p0 m v11 r8 = some r
 have e1 := @gB.eq_2
 unfold oE at h
 exact sgo 22 [.tmp 2] Tryz.func383
instance : bC 383 (type_of% @aRp) := ⟨@aRp⟩
theorem aTB (p0 p1 r) (h : aCY p0 p1 = some r) : Sc 403 [aI p0, aI p1] [rI r] := by
  unfold aCY at h
  simp only [EN]
  refine sgn 18 [.tmp 4] Tryz.func403 fun base wd => ?_
  refine sq (rn ?_)
  refine an (sq (sq ?_))
  obtain ⟨x1, h2, h⟩ := bind_some h
  refine rn1 (aM7 _ _ _ _ h2) ?_
  refine an ?_
  rcases dH (!x1) with b3 | b3
  · replace h := bJ b3 h
    refine ct (sq (rn ?_))
    refine an (rt ?_)
    cases h
    simp [Ret, TB, EN, *]
  replace h := bI b3 h
  refine cf (sk (an (sq ?_)))
  rcases dH (decide (p1 = 0)) with b4 | b4
  · replace h := bJ b4 h
    cases h
  replace h := bI b4 h
  apply zF
  · simp +decide only [E, reduceIte, Nat.reduceAdd, Nat.reduceMul, Bool.not_true, Bool.not_false, aNz, L, EN, b3, b4]
    exact Is.mk _
  refine an (sq (sq (rn ?_)))
  refine an ?_
  rcases aBO (decide ((Int.tmod p0 p1) < 0)) with b5 | b5
  · replace h := bI b5 h
    refine cf (sk (an (sq (rn ?_))))
    refine an (rt ?_)
    cases h
    simp [Ret, TB, EN, *]
  replace h := bJ b5 h
  refine ct (rn ?_)
  refine an (sq (rn ?_))
  refine an (rt ?_)
  cases h
  simp [Ret, TB, EN, *]
instance : bC 403 (type_of% @aTB) := ⟨@aTB⟩
theorem aR3 (p0 r) (h : aB2 p0 = some r) : Sc 382 [aL enI p0] [rI r] := by
 have i1 := inv fun m s => ∃ v3 : Int, ∃ v8 : Int, (s.t 3 = vI v3 ∧ s.t 6 = vL enI p0 ∧ s.t 7 = vI (List.length p0 : Int) ∧ s.t 8 = vI v8) ∧ pM p0 m v3 v8 = some r
 have e1 := @pM.eq_2
 unfold aB2 at h
 exact sgo 21 [.tmp 2] Tryz.func382
instance : bC 382 (type_of% @aR3) := ⟨@aR3⟩
theorem aQc (p0 p1 r) (h : nS p0 p1 = some r) : Sc 344 [aI p0, aL enI p1] [rI r] := by
 unfold nS at h
 exact sgo 13 [.tmp 4] Tryz.func344
instance : bC 344 (type_of% @aQc) := ⟨@aQc⟩
theorem aQC (p0 p1 r) (h : gO p0 p1 = some r) : Sc 345 [aI p0, aS p1] [rI r] := by
 unfold gO at h
 exact sgo 14 [.tmp 4] Tryz.func345
instance : bC 345 (type_of% @aQC) := ⟨@aQC⟩
theorem aTA (p0 p1 p2 r) (h : aAY p0 p1 p2 = some r) : Sc 286 [aX (M.Site.en p0), aS p1, aI p2] [rW 5 1 enB r] := by
  unfold aAY at h
  simp only [EN]
  refine sgn 33 [.tmp 6] Tryz.func286 fun base wd => ?_
  refine sq (rn ?_)
  refine an (sq ?_)
  obtain ⟨x1, h2, h⟩ := bind_some h
  obtain ⟨x3, h4, h⟩ := bind_some h
  obtain ⟨x5, h6, h⟩ := bind_some h
  refine rn3 (aQC _ _ _ h2) (aQC _ _ _ h4) (aQc _ _ _ h6) ?_
  refine an (sq ?_)
  refine cu (fun s => s.t 7 = vI x5 ∧ True) ?_
  rintro s7 ⟨f8, _⟩
  refine rn ?_
  refine an (sq (sq ?_))
  refine cu (fun s => s.t 7 = vI x5 ∧ s.t 8 = vR 100019 ((s7.h 100019).1 + 1) ∧ s.h 100019 = (((s7.h 100019).1 + 1), oW 5 1 enB ([] : List Int)) ∧ True) ?_
  rintro s9 ⟨f10, f11, f12, _⟩
  refine rn ?_
  refine an (bk ?_)
  refine lR (fun m s => ∃ v9 : Int, ∃ r19 : List Int, ∃ u19 : Nat, s.t 7 = vI x5 ∧ s.t 8 = vR 100019 u19 ∧ s.t 9 = vI v9 ∧ s.h 100019 = (u19, oW 5 1 enB r19) ∧ dG x5 m v9 r19 = some r) fuel ?_ ?_
  · refine ⟨5, ([] : List Int), ((s7.h 100019).1 + 1), ?_, ?_, ?_, ?_, h⟩
    all_goals simp +decide only [F, reduceIte, Nat.reduceAdd, Bool.not_true, Bool.not_false, EN, *, -h]
  rintro mL1 s13 ⟨v9, r19, u19, f14, f15, f16, f17, h⟩
  rcases mL1 with _ | mL1
  · exact absurd h (by simp [dG])
  simp only [dG] at h
  refine sq (sq (rn ?_))
  refine an ?_
  rcases aBO (decide (v9 ≥ 0)) with b18 | b18
  · replace h := bI b18 h
    refine cf (xt (nE (pT (aAS (an (sq (rn ?_)))))))
    refine an (rt ?_)
    cases h
    simp [Ret, TB, EN, *]
  replace h := bJ b18 h
  refine ct (sk (an (sq (bk ?_))))
  rcases aBO (decide (0 ≤ (IntKind.i64.wrap (8 * v9)))) with b19 | b19
  · replace h := bI b19 h
    cases h
  replace h := bJ b19 h
  obtain ⟨x20, h21, h⟩ := bind_some h
  apply zF
  · simp +decide only [E, reduceIte, Nat.reduceAdd, Nat.reduceMul, Bool.not_true, Bool.not_false, aEy, L, ti3, ti5, aHl, enB, EN, f14, f15, f16, f17, b18, b19]
    refine ⟨by (have hb := kD h21); simp [enB, List.length_append, bB] at hb ⊢ <;> omega, ?_⟩
    try simp +decide only [E, reduceIte, Nat.reduceAdd, Nat.reduceMul, Bool.not_true, Bool.not_false, aEy, L, ti3, ti5, aHl, enB, EN, f14, f15, f16, f17, b18, b19]
    exact Is.mk _
  refine ab (an ?_)
  refine cu (fun s => s.t 7 = vI x5 ∧ s.t 8 = vR 100019 (u19 + 1) ∧ s.t 9 = vI v9 ∧ s.h 100019 = ((u19 + 1), oW 5 1 enB (r19 ++ [(IntKind.u8.wrap (Int.fdiv x5 (2 ^ (min (IntKind.i64.wrap (8 * v9)).toNat IntKind.i64.bits))))])) ∧ True) ?_
  rintro s22 ⟨f23, f24, f25, f26, _⟩
  refine rn ?_
  refine xX ⟨mL1, by omega, (IntKind.i64.wrap (v9 - 1)), (r19 ++ [(IntKind.u8.wrap (Int.fdiv x5 (2 ^ (min (IntKind.i64.wrap (8 * v9)).toNat IntKind.i64.bits))))]), (u19 + 1), ?_, ?_, ?_, ?_, h⟩
  all_goals simp +decide only [F, reduceIte, Nat.reduceAdd, Bool.not_true, Bool.not_false, EN, *, -h]
instance : bC 286 (type_of% @aTA) := ⟨@aTA⟩
theorem aQ3 (p0 p1 p2 r) (h : uW p0 p1 p2 = some r) : Sc 216 [aX (M.Site.en p0), aS p1, aI p2] [(true, M.Response.rs r)] := by
 unfold uW at h
 exact sgo 32 [.cell 6 110] Tryz.func216
instance : bC 216 (type_of% @aQ3) := ⟨@aQ3⟩
theorem aSn (p0 p1 p2 p3 p4 r) (h : oK p0 p1 p2 p3 p4 = some r) : Sc 154 [aX (M.aP.en p0), aX (M.Site.en p1), aI p2, aS p3, aB p4] [(true, M.Response.rs r)] := by
 unfold oK at h
 exact sgo 32 [.cell 10 110] Tryz.func154
instance : bC 154 (type_of% @aSn) := ⟨@aSn⟩
theorem c68 (p0 p1 p2 r) (h : wM p0 p1 p2 = some r) : Sc 68 [aX (M.World.en p0), aX (M.bG.en p1), aS p2] [(true, M.Response.rs r)] := by
 unfold wM at h
 exact sgo 39 [.cell 6 110] Tryz.func68
instance : bC 68 (type_of% @c68) := ⟨@c68⟩
theorem c69 (p0 p1 p2 r) (h : wJ p0 p1 p2 = some r) : Sc 69 [aX (M.bG.en p0), aS p1, aX (M.Response.en p2)] [(true, M.bG.rs r.1), rB r.2] := by
 unfold wJ at h
 exact sgo 43 [.cell 6 104, .tmp 7] Tryz.func69
instance : bC 69 (type_of% @c69) := ⟨@c69⟩
theorem c19 (p0 p1 p2 r) (h : jQ p0 p1 p2 = some r) : Sc 19 [aX (M.World.en p0), aI p1, aS p2] [(true, M.World.rs r.1), rI r.2] := by
 unfold jQ at h
 exact sgo 50 [.cell 6 50, .tmp 7] Tryz.func19
instance : bC 19 (type_of% @c19) := ⟨@c19⟩
end Go.Proofs.YtecmnmaaopkdfaaGreat.gen
