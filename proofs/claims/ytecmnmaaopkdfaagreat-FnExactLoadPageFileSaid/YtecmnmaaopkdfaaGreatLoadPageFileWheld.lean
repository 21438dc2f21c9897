/-
  Helper text. No conditions.
-/
import Derived.Test.YtecmnmaaopkdfaaGreatLoadPageFileTi
import Derived.Test.YtecmnmaaopkdfaaGreatLoadPageFileWmark0
namespace Go.Proofs.YtecmnmaaopkdfaaGreat.gen
open Go Go.Sh
set_option linter.unusedVariables false
set_option linter.unusedSimpArgs false
set_option maxRecDepth 20000
set_option maxHeartbeats 4000000
theorem aQJ (p0 p1 r) (h : nK p0 p1 = some r) : Sc 210 [aL enB p0, aI p1] [rI r] := by
 have i1 := inv fun m s => ∃ v1 : Int, ∃ v5 : Int, (s.t 0 = vL enB p0 ∧ s.t 1 = vI v1 ∧ s.t 5 = vI v5) ∧ eW p0 m v1 v5 = some r
 have e1 := @eW.eq_2
 unfold nK at h
 exact sgo 22 [.tmp 4] Tryz.func210
instance : bC 210 (type_of% @aQJ) := ⟨@aQJ⟩
theorem aQ6 (p0 p1 r) (h : oY p0 p1 = some r) : Sc 274 [aL M.Cached.en p0, aI p1] [rI r] := by
 have i1 := inv fun m s => ∃ v1 : Int, ∃ v5 : Int, (s.t 0 = vL M.Cached.en p0 ∧ s.t 1 = vI v1 ∧ s.t 5 = vI v5) ∧ dL p0 m v1 v5 = some r
 have e1 := @dL.eq_2
 unfold oY at h
 exact sgo 85 [.tmp 4] Tryz.func274
instance : bC 274 (type_of% @aQ6) := ⟨@aQ6⟩
theorem aQL (p0 p1 r) (h : qB p0 p1 = some r) : Sc 207 [aL M.Cache.en p0, aI p1] [rI r] := by
 have i1 := inv fun m s => ∃ v1 : Int, ∃ v5 : Int, (s.t 0 = vL M.Cache.en p0 ∧ s.t 1 = vI v1 ∧ s.t 5 = vI v5) ∧ eP p0 m v1 v5 = some r
 have e1 := @eP.eq_2
 unfold qB at h
 exact sgo 31 [.tmp 4] Tryz.func207
instance : bC 207 (type_of% @aQL) := ⟨@aQL⟩
theorem aR6 (p0 p1 r) (h : rJ p0 p1 = some r) : Sc 211 [aL M.Field.en p0, aI p1] [rI r] := by
 have i1 := inv fun m s => ∃ v1 : Int, ∃ v5 : Int, (s.t 0 = vL M.Field.en p0 ∧ s.t 1 = vI v1 ∧ s.t 5 = vI v5) ∧ eC p0 m v1 v5 = some r
 have e1 := @eC.eq_2
 unfold rJ at h
 exact sgo 32 [.tmp 4] Tryz.func211
instance : bC 211 (type_of% @aR6) := ⟨@aR6⟩
theorem aQB (p0 p1 r) (h : lG p0 p1 = some r) : Sc 135 [aL M.Item.en p0, aI p1] [rI r] := by
 have i1 := inv fun m s => ∃ v1 : Int, ∃ v5 : Int, (s.t 0 = vL M.Item.en p0 ∧ s.t 1 = vI v1 ∧ s.t 5 = vI v5) ∧ fG p0 m v1 v5 = some r
 have e1 := @fG.eq_2
 unfold lG at h
 exact sgo 54 [.tmp 4] Tryz.func135
instance : bC 135 (type_of% @aQB) := ⟨@aQB⟩
theorem aQQ (p0 p1 r) (h : qK p0 p1 = some r) : Sc 208 [aL M.aG.en p0, aI p1] [rI r] := by
 have i1 := inv fun m s => ∃ v1 : Int, ∃ v5 : Int, (s.t 0 = vL M.aG.en p0 ∧ s.t 1 = vI v1 ∧ s.t 5 = vI v5) ∧ eE p0 m v1 v5 = some r
 have e1 := @eE.eq_2
 unfold qK at h
 exact sgo 41 [.tmp 4] Tryz.func208
instance : bC 208 (type_of% @aQQ) := ⟨@aQQ⟩
theorem aQS (p0 p1 r) (h : lL p0 p1 = some r) : Sc 209 [aL M.aA.en p0, aI p1] [rI r] := by
 have i1 := inv fun m s => ∃ v1 : Int, ∃ v5 : Int, (s.t 0 = vL M.aA.en p0 ∧ s.t 1 = vI v1 ∧ s.t 5 = vI v5) ∧ cH p0 m v1 v5 = some r
 have e1 := @cH.eq_2
 unfold lL at h
 exact sgo 33 [.tmp 4] Tryz.func209
instance : bC 209 (type_of% @aQS) := ⟨@aQS⟩
theorem aP6 (p0 p1 r) (h : mB p0 p1 = some r) : Sc 137 [aL M.aW.en p0, aI p1] [rI r] := by
 have i1 := inv fun m s => ∃ v1 : Int, ∃ v5 : Int, (s.t 0 = vL M.aW.en p0 ∧ s.t 1 = vI v1 ∧ s.t 5 = vI v5) ∧ eD p0 m v1 v5 = some r
 have e1 := @eD.eq_2
 unfold mB at h
 exact sgo 81 [.tmp 4] Tryz.func137
instance : bC 137 (type_of% @aP6) := ⟨@aP6⟩
theorem aUm (p0 p1 r) (h : pH p0 p1 = some r) : Sc 128 [aL M.aE.en p0, aI p1] [rI r] := by
  unfold pH at h
  simp only [EN]
  refine sgn 271 [.tmp 4] Tryz.func128 fun base wd => ?_
  refine sq (rn ?_)
  refine an (sq (sq (rn ?_)))
  refine an (bk ?_)
  refine lR (fun m s => ∃ v1 : Int, ∃ v5 : Int, s.t 0 = vL M.aE.en p0 ∧ s.t 1 = vI v1 ∧ s.t 5 = vI v5 ∧ cM p0 m v1 v5 = some r) fuel ?_ ?_
  · refine ⟨p1, 0, ?_, ?_, ?_, h⟩
    all_goals simp +decide only [F, reduceIte, Nat.reduceAdd, Bool.not_true, Bool.not_false, EN, *, -h]
  rintro mL1 s1 ⟨v1, v5, f2, f3, f4, h⟩
  rcases mL1 with _ | mL1
  · exact absurd h (by simp [cM])
  simp only [cM] at h
  refine sq (sq (rn ?_))
  refine an ?_
  rcases aBO (decide (v5 < (List.length p0 : Int))) with b5 | b5
  · replace h := bI b5 h
    refine cf (xt (nE (pT (aAS (an (sq (rn ?_)))))))
    refine an (rt ?_)
    cases h
    simp [Ret, TB, EN, *]
  replace h := bJ b5 h
  refine ct (sk (an (sq (bk (sq (sq ?_))))))
  obtain ⟨x6, h7, h⟩ := bind_some h
  obtain ⟨q8, q9, q10⟩ := aT h7
  obtain ⟨x11, h12, h⟩ := bind_some h
  refine rd1 mixed (aDr _ _ h12) ?_
  refine an ?_
  rcases dH (!(x6.Site.toList == x11.toList)) with b13 | b13
  · replace h := bJ b13 h
    refine ct (sq (rn ?_))
    refine an (rt ?_)
    cases h
    simp [Ret, TB, EN, *]
  replace h := bI b13 h
  refine cf (sk (an (sq (rn ?_))))
  refine an (sq (sq ?_))
  obtain ⟨x14, h15, h⟩ := bind_some h
  refine rd1 mixed (aDr _ _ h15) ?_
  refine an ?_
  rcases dH (!(x6.Top.toList == x14.toList)) with b16 | b16
  · replace h := bJ b16 h
    refine ct (sq (rn ?_))
    refine an (rt ?_)
    cases h
    simp [Ret, TB, EN, *]
  replace h := bI b16 h
  refine cf (sk (an (sq (rn ?_))))
  refine an (sq (sq ?_))
  obtain ⟨x17, h18, h⟩ := bind_some h
  refine rd1 mixed (aDr _ _ h18) ?_
  refine an ?_
  rcases dH (!(x6.Registration.Site.toList == x17.toList)) with b19 | b19
  · replace h := bJ b19 h
    refine ct (sq (rn ?_))
    refine an (rt ?_)
    cases h
    simp [Ret, TB, EN, *]
  replace h := bI b19 h
  refine cf (sk (an (sq (rn ?_))))
  refine an (sq (sq (rn ?_)))
  refine an ?_
  rcases dH (x6.Registration.Installing != (IntKind.i64.wrap ((IntKind.i64.wrap ((IntKind.i64.wrap (v1 + 1)) + 1)) + 1))) with b20 | b20
  · replace h := bJ b20 h
    refine ct (sq (rn ?_))
    refine an (rt ?_)
    cases h
    simp [Ret, TB, EN, *]
  replace h := bI b20 h
  refine cf (sk (an (sq (rn ?_))))
  refine an (sq (sq (rn ?_)))
  refine an ?_
  rcases dH (x6.Registration.Waiting != (IntKind.i64.wrap ((IntKind.i64.wrap ((IntKind.i64.wrap ((IntKind.i64.wrap (v1 + 1)) + 1)) + 1)) + 1))) with b21 | b21
  · replace h := bJ b21 h
    refine ct (sq (rn ?_))
    refine an (rt ?_)
    cases h
    simp [Ret, TB, EN, *]
  replace h := bI b21 h
  refine cf (sk (an (sq (rn ?_))))
  refine an (sq (sq (rn ?_)))
  refine an ?_
  rcases dH (x6.Registration.Active != (IntKind.i64.wrap ((IntKind.i64.wrap ((IntKind.i64.wrap ((IntKind.i64.wrap ((IntKind.i64.wrap (v1 + 1)) + 1)) + 1)) + 1)) + 1))) with b22 | b22
  · replace h := bJ b22 h
    refine ct (sq (rn ?_))
    refine an (rt ?_)
    cases h
    simp [Ret, TB, EN, *]
  replace h := bI b22 h
  refine cf (sk (an (sq (rn ?_))))
  refine an (sq ?_)
  refine cu (fun s => s.t 0 = vL M.aE.en p0 ∧ s.t 1 = vI (IntKind.i64.wrap ((IntKind.i64.wrap ((IntKind.i64.wrap ((IntKind.i64.wrap ((IntKind.i64.wrap ((IntKind.i64.wrap (v1 + 1)) + 1)) + 1)) + 1)) + 1)) + 1)) ∧ s.t 5 = vI v5 ∧ True) ?_
  rintro s23 ⟨f24, f25, f26, _⟩
  obtain ⟨x27, h28, h⟩ := bind_some h
  refine rn1 (aQL _ _ _ h28) ?_
  refine an (sq (sq (rn ?_)))
  refine an ?_
  rcases dH (decide (x27 < 0)) with b29 | b29
  · replace h := bJ b29 h
    refine ct (sq (rn ?_))
    refine an (rt ?_)
    cases h
    simp [Ret, TB, EN, *]
  replace h := bI b29 h
  refine cf (sk (an (sq (sq ?_))))
  obtain ⟨x30, h31, h⟩ := bind_some h
  refine rd1 mixed (aDr _ _ h31) ?_
  refine an ?_
  rcases dH (!(x6.bF.Base.Name.toList == x30.toList)) with b32 | b32
  · replace h := bJ b32 h
    refine ct (sq (rn ?_))
    refine an (rt ?_)
    cases h
    simp [Ret, TB, EN, *]
  replace h := bI b32 h
  refine cf (sk (an (sq (rn ?_))))
  refine an (sq (sq (rn ?_)))
  refine an ?_
  rcases dH (x6.bF.Base.Version != (IntKind.i64.wrap (x27 + 1))) with b33 | b33
  · replace h := bJ b33 h
    refine ct (sq (rn ?_))
    refine an (rt ?_)
    cases h
    simp [Ret, TB, EN, *]
  replace h := bI b33 h
  refine cf (sk (an (sq (rn ?_))))
  refine an (sq ?_)
  obtain ⟨x34, h35, h⟩ := bind_some h
  refine rn1 (aQQ _ _ _ h35) ?_
  refine an (sq (sq (rn ?_)))
  refine an ?_
  rcases dH (decide (x34 < 0)) with b36 | b36
  · replace h := bJ b36 h
    refine ct (sq (rn ?_))
    refine an (rt ?_)
    cases h
    simp [Ret, TB, EN, *]
  replace h := bI b36 h
  refine cf (sk (an (sq ?_)))
  obtain ⟨x37, h38, h⟩ := bind_some h
  refine rn1 (aQS _ _ _ h38) ?_
  refine an (sq (sq (rn ?_)))
  refine an ?_
  rcases dH (decide (x37 < 0)) with b39 | b39
  · replace h := bJ b39 h
    refine ct (sq (rn ?_))
    refine an (rt ?_)
    cases h
    simp [Ret, TB, EN, *]
  replace h := bI b39 h
  refine cf (sk (an (sq ?_)))
  obtain ⟨x40, h41, h⟩ := bind_some h
  refine rn1 (aQJ _ _ _ h41) ?_
  refine an (sq (sq (rn ?_)))
  refine an ?_
  rcases dH (decide (x40 < 0)) with b42 | b42
  · replace h := bJ b42 h
    refine ct (sq (rn ?_))
    refine an (rt ?_)
    cases h
    simp [Ret, TB, EN, *]
  replace h := bI b42 h
  refine cf (sk (an (sq (sq ?_))))
  refine cu (fun s => s.t 0 = vL M.aE.en p0 ∧ s.t 1 = vI x40 ∧ s.t 5 = vI v5 ∧ True) ?_
  rintro s43 ⟨f44, f45, f46, _⟩
  refine rn ?_
  refine an ?_
  rcases dH (x6.bF.Count != x40) with b47 | b47
  · replace h := bJ b47 h
    refine ct (sq (rn ?_))
    refine an (rt ?_)
    cases h
    simp [Ret, TB, EN, *]
  replace h := bI b47 h
  refine cf (sk (an (sq (rn ?_))))
  refine an (sq (sq ?_))
  obtain ⟨x48, h49, h⟩ := bind_some h
  refine rd1 mixed (aDr _ _ h49) ?_
  refine an ?_
  rcases dH (!(x6.aC.Base.Name.toList == x48.toList)) with b50 | b50
  · replace h := bJ b50 h
    refine ct (sq (rn ?_))
    refine an (rt ?_)
    cases h
    simp [Ret, TB, EN, *]
  replace h := bI b50 h
  refine cf (sk (an (sq (rn ?_))))
  refine an (sq ?_)
  obtain ⟨x51, h52, h⟩ := bind_some h
  refine rn1 (aQB _ _ _ h52) ?_
  refine an (sq (sq (rn ?_)))
  refine an ?_
  rcases dH (decide (x51 < 0)) with b53 | b53
  · replace h := bJ b53 h
    refine ct (sq (rn ?_))
    refine an (rt ?_)
    cases h
    simp [Ret, TB, EN, *]
  replace h := bI b53 h
  refine cf (sk (an (sq (sq (rn ?_)))))
  refine an ?_
  rcases dH (x6.aC.Base.Auto != x51) with b54 | b54
  · replace h := bJ b54 h
    refine ct (sq (rn ?_))
    refine an (rt ?_)
    cases h
    simp [Ret, TB, EN, *]
  replace h := bI b54 h
  refine cf (sk (an (sq (rn ?_))))
  refine an (sq (sq (rn ?_)))
  refine an ?_
  rcases dH (x6.aC.Seen != (IntKind.i64.wrap (x51 + 1))) with b55 | b55
  · replace h := bJ b55 h
    refine ct (sq (rn ?_))
    refine an (rt ?_)
    cases h
    simp [Ret, TB, EN, *]
  replace h := bI b55 h
  refine cf (sk (an (sq (rn ?_))))
  refine an (sq (sq (rn ?_)))
  refine an ?_
  rcases dH (x6.aC.Sync.aV.Device != (IntKind.i64.wrap ((IntKind.i64.wrap (x51 + 1)) + 1))) with b56 | b56
  · replace h := bJ b56 h
    refine ct (sq (rn ?_))
    refine an (rt ?_)
    cases h
    simp [Ret, TB, EN, *]
  replace h := bI b56 h
  refine cf (sk (an (sq (rn ?_))))
  refine an (sq (sq ?_))
  refine cu (fun s => s.t 0 = vL M.aE.en p0 ∧ s.t 1 = vI (IntKind.i64.wrap ((IntKind.i64.wrap ((IntKind.i64.wrap (x51 + 1)) + 1)) + 1)) ∧ s.t 5 = vI v5 ∧ True) ?_
  rintro s57 ⟨f58, f59, f60, _⟩
  refine rn ?_
  refine an ?_
  rcases dH (x6.aC.Sync.aV.Next != (IntKind.i64.wrap ((IntKind.i64.wrap ((IntKind.i64.wrap (x51 + 1)) + 1)) + 1))) with b61 | b61
  · replace h := bJ b61 h
    refine ct (sq (rn ?_))
    refine an (rt ?_)
    cases h
    simp [Ret, TB, EN, *]
  replace h := bI b61 h
  refine cf (sk (an (sq (rn ?_))))
  refine an (sq ?_)
  obtain ⟨x62, h63, h⟩ := bind_some h
  refine rn1 (aP6 _ _ _ h63) ?_
  refine an (sq (sq (rn ?_)))
  refine an ?_
  rcases dH (decide (x62 < 0)) with b64 | b64
  · replace h := bJ b64 h
    refine ct (sq (rn ?_))
    refine an (rt ?_)
    cases h
    simp [Ret, TB, EN, *]
  replace h := bI b64 h
  refine cf (sk (an (sq (sq (rn ?_)))))
  refine an ?_
  rcases dH (x6.aC.Sync.Tries != x62) with b65 | b65
  · replace h := bJ b65 h
    refine ct (sq (rn ?_))
    refine an (rt ?_)
    cases h
    simp [Ret, TB, EN, *]
  replace h := bI b65 h
  refine cf (sk (an (sq (rn ?_))))
  refine an (sq (sq (rn ?_)))
  refine an ?_
  rcases dH (x6.aC.Sync.WaitUntil != (IntKind.i64.wrap (x62 + 1))) with b66 | b66
  · replace h := bJ b66 h
    refine ct (sq (rn ?_))
    refine an (rt ?_)
    cases h
    simp [Ret, TB, EN, *]
  replace h := bI b66 h
  refine cf (sk (an (sq (rn ?_))))
  refine an (sq (sq (rn ?_)))
  refine an ?_
  rcases dH (x6.LastUsed != (IntKind.i64.wrap ((IntKind.i64.wrap (x62 + 1)) + 1))) with b67 | b67
  · replace h := bJ b67 h
    refine ct (sq (rn ?_))
    refine an (rt ?_)
    cases h
    simp [Ret, TB, EN, *]
  replace h := bI b67 h
  refine cf (sk (an (sq (rn ?_))))
  refine an (sq (sq (rn ?_)))
  refine an ?_
  rcases dH (!(x6.Persistent == ((Int.tmod (IntKind.i64.wrap ((IntKind.i64.wrap ((IntKind.i64.wrap (x62 + 1)) + 1)) + 1)) 3) == 0))) with b68 | b68
  · replace h := bJ b68 h
    refine ct (sq (rn ?_))
    refine an (rt ?_)
    cases h
    simp [Ret, TB, EN, *]
  replace h := bI b68 h
  refine cf (sk (an (rn ?_)))
  refine ab (an (rn ?_))
  refine xX ⟨mL1, by omega, (IntKind.i64.wrap ((IntKind.i64.wrap ((IntKind.i64.wrap ((IntKind.i64.wrap (x62 + 1)) + 1)) + 1)) + 1)), (IntKind.i64.wrap (v5 + 1)), ?_, ?_, ?_, h⟩
  all_goals simp +decide only [F, reduceIte, Nat.reduceAdd, Bool.not_true, Bool.not_false, EN, *, -h]
instance : bC 128 (type_of% @aUm) := ⟨@aUm⟩
theorem c52 (p0 p1 r) (h : vM p0 p1 = some r) : Sc 52 [aX (M.aK.en p0), aI p1] [rI r] := by
 unfold vM at h
 exact sgo 12 [.tmp 4] Tryz.func52
instance : bC 52 (type_of% @c52) := ⟨@c52⟩
theorem aQm (p0 p1 r) (h : pA p0 p1 = some r) : Sc 129 [aL M.aJ.en p0, aI p1] [rI r] := by
 have i1 := inv fun m s => ∃ v1 : Int, ∃ v5 : Int, (s.t 0 = vL M.aJ.en p0 ∧ s.t 1 = vI v1 ∧ s.t 5 = vI v5) ∧ dO p0 m v1 v5 = some r
 have e1 := @dO.eq_2
 unfold pA at h
 exact sgo 32 [.tmp 4] Tryz.func129
instance : bC 129 (type_of% @aQm) := ⟨@aQm⟩
theorem aQd (p0 p1 r) (h : rR p0 p1 = some r) : Sc 130 [aL M.Instr.en p0, aI p1] [rI r] := by
 have i1 := inv fun m s => ∃ v1 : Int, ∃ v5 : Int, (s.t 0 = vL M.Instr.en p0 ∧ s.t 1 = vI v1 ∧ s.t 5 = vI v5) ∧ eO p0 m v1 v5 = some r
 have e1 := @eO.eq_2
 unfold rR at h
 exact sgo 50 [.tmp 4] Tryz.func130
instance : bC 130 (type_of% @aQd) := ⟨@aQd⟩
theorem aQ0 (p0 p1 r) (h : xG p0 p1 = some r) : Sc 131 [aL enI p0, aI p1] [rI r] := by
 have i1 := inv fun m s => ∃ v1 : Int, ∃ v5 : Int, (s.t 0 = vL enI p0 ∧ s.t 1 = vI v1 ∧ s.t 5 = vI v5) ∧ fV p0 m v1 v5 = some r
 have e1 := @fV.eq_2
 unfold xG at h
 exact sgo 21 [.tmp 4] Tryz.func131
instance : bC 131 (type_of% @aQ0) := ⟨@aQ0⟩
theorem c53 (p0 p1 r) (h : tN p0 p1 = some r) : Sc 53 [aL M.bG.en p0, aI p1] [rI r] := by
  unfold tN at h
  simp only [EN]
  refine sgn 124 [.tmp 4] Tryz.func53 fun base wd => ?_
  refine sq (rn ?_)
  refine an (sq (sq (rn ?_)))
  refine an (bk ?_)
  refine lR (fun m s => ∃ v1 : Int, ∃ v5 : Int, s.t 0 = vL M.bG.en p0 ∧ s.t 1 = vI v1 ∧ s.t 5 = vI v5 ∧ dS p0 m v1 v5 = some r) fuel ?_ ?_
  · refine ⟨p1, 0, ?_, ?_, ?_, h⟩
    all_goals simp +decide only [F, reduceIte, Nat.reduceAdd, Bool.not_true, Bool.not_false, EN, *, -h]
  rintro mL1 s1 ⟨v1, v5, f2, f3, f4, h⟩
  rcases mL1 with _ | mL1
  · exact absurd h (by simp [dS])
  simp only [dS] at h
  refine sq (sq (rn ?_))
  refine an ?_
  rcases aBO (decide (v5 < (List.length p0 : Int))) with b5 | b5
  · replace h := bI b5 h
    refine cf (xt (nE (pT (aAS (an (sq (rn ?_)))))))
    refine an (rt ?_)
    cases h
    simp [Ret, TB, EN, *]
  replace h := bJ b5 h
  refine ct (sk (an (sq (bk (sq (sq ?_))))))
  obtain ⟨x6, h7, h⟩ := bind_some h
  obtain ⟨q8, q9, q10⟩ := aT h7
  refine rn ?_
  refine an ?_
  rcases dH (x6.Id != v1) with b11 | b11
  · replace h := bJ b11 h
    refine ct (sq (rn ?_))
    refine an (rt ?_)
    cases h
    simp [Ret, TB, EN, *]
  replace h := bI b11 h
  refine cf (sk (an (sq (rn ?_))))
  refine an (sq (sq ?_))
  obtain ⟨x12, h13, h⟩ := bind_some h
  refine rd1 mixed (aDr _ _ h13) ?_
  refine an ?_
  rcases dH (!(x6.Site.toList == x12.toList)) with b14 | b14
  · replace h := bJ b14 h
    refine ct (sq (rn ?_))
    refine an (rt ?_)
    cases h
    simp [Ret, TB, EN, *]
  replace h := bI b14 h
  refine cf (sk (an (sq (rn ?_))))
  refine an (sq (sq ?_))
  obtain ⟨x15, h16, h⟩ := bind_some h
  refine rd1 mixed (aDr _ _ h16) ?_
  refine an ?_
  rcases dH (!(x6.Top.toList == x15.toList)) with b17 | b17
  · replace h := bJ b17 h
    refine ct (sq (rn ?_))
    refine an (rt ?_)
    cases h
    simp [Ret, TB, EN, *]
  replace h := bI b17 h
  refine cf (sk (an (sq (rn ?_))))
  refine an (sq (sq (rn ?_)))
  refine an ?_
  rcases dH (x6.Version != (IntKind.i64.wrap ((IntKind.i64.wrap ((IntKind.i64.wrap (v1 + 1)) + 1)) + 1))) with b18 | b18
  · replace h := bJ b18 h
    refine ct (sq (rn ?_))
    refine an (rt ?_)
    cases h
    simp [Ret, TB, EN, *]
  replace h := bI b18 h
  refine cf (sk (an (sq (rn ?_))))
  refine an (sq ?_)
  obtain ⟨x19, h20, h⟩ := bind_some h
  refine rn1 (aQm _ _ _ h20) ?_
  refine an (sq (sq (rn ?_)))
  refine an ?_
  rcases dH (decide (x19 < 0)) with b21 | b21
  · replace h := bJ b21 h
    refine ct (sq (rn ?_))
    refine an (rt ?_)
    cases h
    simp [Ret, TB, EN, *]
  replace h := bI b21 h
  refine cf (sk (an (sq ?_)))
  obtain ⟨x22, h23, h⟩ := bind_some h
  refine rn1 (aQd _ _ _ h23) ?_
  refine an (sq (sq (rn ?_)))
  refine an ?_
  rcases dH (decide (x22 < 0)) with b24 | b24
  · replace h := bJ b24 h
    refine ct (sq (rn ?_))
    refine an (rt ?_)
    cases h
    simp [Ret, TB, EN, *]
  replace h := bI b24 h
  refine cf (sk (an (sq (sq ?_))))
  refine cu (fun s => s.t 0 = vL M.bG.en p0 ∧ s.t 1 = vI x22 ∧ s.t 5 = vI v5 ∧ True) ?_
  rintro s25 ⟨f26, f27, f28, _⟩
  refine rn ?_
  refine an ?_
  rcases dH (x6.Machine.Pc != x22) with b29 | b29
  · replace h := bJ b29 h
    refine ct (sq (rn ?_))
    refine an (rt ?_)
    cases h
    simp [Ret, TB, EN, *]
  replace h := bI b29 h
  refine cf (sk (an (sq (rn ?_))))
  refine an (sq ?_)
  obtain ⟨x30, h31, h⟩ := bind_some h
  refine rn1 (aQ0 _ _ _ h31) ?_
  refine an (sq (sq (rn ?_)))
  refine an ?_
  rcases dH (decide (x30 < 0)) with b32 | b32
  · replace h := bJ b32 h
    refine ct (sq (rn ?_))
    refine an (rt ?_)
    cases h
    simp [Ret, TB, EN, *]
  replace h := bI b32 h
  refine cf (sk (an (sq (sq (rn ?_)))))
  refine an ?_
  rcases dH (x6.Machine.Steps != x30) with b33 | b33
  · replace h := bJ b33 h
    refine ct (sq (rn ?_))
    refine an (rt ?_)
    cases h
    simp [Ret, TB, EN, *]
  replace h := bI b33 h
  refine cf (sk (an (sq (rn ?_))))
  refine an (sq (sq (rn ?_)))
  refine an ?_
  rcases dH (!(x6.Machine.Done == ((Int.tmod (IntKind.i64.wrap (x30 + 1)) 3) == 0))) with b34 | b34
  · replace h := bJ b34 h
    refine ct (sq (rn ?_))
    refine an (rt ?_)
    cases h
    simp [Ret, TB, EN, *]
  replace h := bI b34 h
  refine cf (sk (an (sq (rn ?_))))
  refine an (sq (sq (rn ?_)))
  refine an ?_
  rcases dH (!(x6.Machine.Wait == ((Int.tmod (IntKind.i64.wrap ((IntKind.i64.wrap (x30 + 1)) + 1)) 3) == 0))) with b35 | b35
  · replace h := bJ b35 h
    refine ct (sq (rn ?_))
    refine an (rt ?_)
    cases h
    simp [Ret, TB, EN, *]
  replace h := bI b35 h
  refine cf (sk (an (rn ?_)))
  refine ab (an (rn ?_))
  refine xX ⟨mL1, by omega, (IntKind.i64.wrap ((IntKind.i64.wrap ((IntKind.i64.wrap (x30 + 1)) + 1)) + 1)), (IntKind.i64.wrap (v5 + 1)), ?_, ?_, ?_, h⟩
  all_goals simp +decide only [F, reduceIte, Nat.reduceAdd, Bool.not_true, Bool.not_false, EN, *, -h]
instance : bC 53 (type_of% @c53) := ⟨@c53⟩
theorem aVA (p0 p1 r) (h : uD p0 p1 = some r) : Sc 132 [aL M.cF.en p0, aI p1] [rI r] := by
 have i1 := inv fun m s => ∃ v1 : Int, ∃ v5 : Int, (s.t 0 = vL M.cF.en p0 ∧ s.t 1 = vI v1 ∧ s.t 5 = vI v5) ∧ fA p0 m v1 v5 = some r
 have e1 := @fA.eq_2
 unfold uD at h
 exact sgo 54 [.tmp 4] Tryz.func132
instance : bC 132 (type_of% @aVA) := ⟨@aVA⟩
theorem c54 (p0 p1 r) (h : pW p0 p1 = some r) : Sc 54 [aX (M.aR.en p0), aI p1] [rI r] := by
 unfold pW at h
 exact sgo 12 [.tmp 4] Tryz.func54
instance : bC 54 (type_of% @c54) := ⟨@c54⟩
theorem aSe (p0 p1 r) (h : sY p0 p1 = some r) : Sc 133 [aL M.fH.en p0, aI p1] [rI r] := by
 have i1 := inv fun m s => ∃ v1 : Int, ∃ v5 : Int, (s.t 0 = vL M.fH.en p0 ∧ s.t 1 = vI v1 ∧ s.t 5 = vI v5) ∧ fB p0 m v1 v5 = some r
 have e1 := @fB.eq_2
 unfold sY at h
 exact sgo 40 [.tmp 4] Tryz.func133
instance : bC 133 (type_of% @aSe) := ⟨@aSe⟩
theorem c55 (p0 p1 r) (h : vO p0 p1 = some r) : Sc 55 [aX (M.Channel.en p0), aI p1] [rI r] := by
 unfold vO at h
 exact sgo 12 [.tmp 4] Tryz.func55
instance : bC 55 (type_of% @c55) := ⟨@c55⟩
theorem aS0 (p0 p1 r) (h : oC p0 p1 = some r) : Sc 134 [aL enS p0, aI p1] [rI r] := by
 have i1 := inv fun m s => ∃ v1 : Int, ∃ v5 : Int, (s.t 0 = vL enS p0 ∧ s.t 1 = vI v1 ∧ s.t 5 = vI v5) ∧ dN p0 m v1 v5 = some r
 have e1 := @dN.eq_2
 unfold oC at h
 exact sgo 22 [.tmp 4] Tryz.func134
instance : bC 134 (type_of% @aS0) := ⟨@aS0⟩
theorem c56 (p0 p1 r) (h : tA p0 p1 = some r) : Sc 56 [aL M.Site.en p0, aI p1] [rI r] := by
 have i1 := inv fun m s => ∃ v1 : Int, ∃ v5 : Int, (s.t 0 = vL M.Site.en p0 ∧ s.t 1 = vI v1 ∧ s.t 5 = vI v5) ∧ eX p0 m v1 v5 = some r
 have e1 := @eX.eq_2
 unfold tA at h
 exact sgo 52 [.tmp 4] Tryz.func56
instance : bC 56 (type_of% @c56) := ⟨@c56⟩
theorem aQR (p0 p1 r) (h : mS p0 p1 = some r) : Sc 136 [aL M.aH.en p0, aI p1] [rI r] := by
 have i1 := inv fun m s => ∃ v1 : Int, ∃ v5 : Int, (s.t 0 = vL M.aH.en p0 ∧ s.t 1 = vI v1 ∧ s.t 5 = vI v5) ∧ cU p0 m v1 v5 = some r
 have e1 := @cU.eq_2
 unfold mS at h
 exact sgo 31 [.tmp 4] Tryz.func136
instance : bC 136 (type_of% @aQR) := ⟨@aQR⟩
theorem c57 (p0 p1 r) (h : nT p0 p1 = some r) : Sc 57 [aL M.Server.en p0, aI p1] [rI r] := by
  unfold nT at h
  simp only [EN]
  refine sgn 62 [.tmp 4] Tryz.func57 fun base wd => ?_
  refine sq (rn ?_)
  refine an (sq (sq (rn ?_)))
  refine an (bk ?_)
  refine lR (fun m s => ∃ v1 : Int, ∃ v5 : Int, s.t 0 = vL M.Server.en p0 ∧ s.t 1 = vI v1 ∧ s.t 5 = vI v5 ∧ cO p0 m v1 v5 = some r) fuel ?_ ?_
  · refine ⟨p1, 0, ?_, ?_, ?_, h⟩
    all_goals simp +decide only [F, reduceIte, Nat.reduceAdd, Bool.not_true, Bool.not_false, EN, *, -h]
  rintro mL1 s1 ⟨v1, v5, f2, f3, f4, h⟩
  rcases mL1 with _ | mL1
  · exact absurd h (by simp [cO])
  simp only [cO] at h
  refine sq (sq (rn ?_))
  refine an ?_
  rcases aBO (decide (v5 < (List.length p0 : Int))) with b5 | b5
  · replace h := bI b5 h
    refine cf (xt (nE (pT (aAS (an (sq (rn ?_)))))))
    refine an (rt ?_)
    cases h
    simp [Ret, TB, EN, *]
  replace h := bJ b5 h
  refine ct (sk (an (sq (bk (sq (sq ?_))))))
  obtain ⟨x6, h7, h⟩ := bind_some h
  obtain ⟨q8, q9, q10⟩ := aT h7
  obtain ⟨x11, h12, h⟩ := bind_some h
  refine rd1 mixed (aDr _ _ h12) ?_
  refine an ?_
  rcases dH (!(x6.aG.Name.toList == x11.toList)) with b13 | b13
  · replace h := bJ b13 h
    refine ct (sq (rn ?_))
    refine an (rt ?_)
    cases h
    simp [Ret, TB, EN, *]
  replace h := bI b13 h
  refine cf (sk (an (sq (rn ?_))))
  refine an (sq ?_)
  obtain ⟨x14, h15, h⟩ := bind_some h
  refine rn1 (aQB _ _ _ h15) ?_
  refine an (sq (sq (rn ?_)))
  refine an ?_
  rcases dH (decide (x14 < 0)) with b16 | b16
  · replace h := bJ b16 h
    refine ct (sq (rn ?_))
    refine an (rt ?_)
    cases h
    simp [Ret, TB, EN, *]
  replace h := bI b16 h
  refine cf (sk (an (sq (sq (rn ?_)))))
  refine an ?_
  rcases dH (x6.aG.Auto != x14) with b17 | b17
  · replace h := bJ b17 h
    refine ct (sq (rn ?_))
    refine an (rt ?_)
    cases h
    simp [Ret, TB, EN, *]
  replace h := bI b17 h
  refine cf (sk (an (sq (rn ?_))))
  refine an (sq ?_)
  obtain ⟨x18, h19, h⟩ := bind_some h
  refine rn1 (aQR _ _ _ h19) ?_
  refine an (sq (sq (rn ?_)))
  refine an ?_
  rcases dH (decide (x18 < 0)) with b20 | b20
  · replace h := bJ b20 h
    refine ct (sq (rn ?_))
    refine an (rt ?_)
    cases h
    simp [Ret, TB, EN, *]
  replace h := bI b20 h
  refine cf (sk (an (sq ?_)))
  obtain ⟨x21, h22, h⟩ := bind_some h
  refine rn1 (aP6 _ _ _ h22) ?_
  refine an (sq (rn ?_))
  refine an ?_
  rcases dH (decide (x21 < 0)) with b23 | b23
  · replace h := bJ b23 h
    refine ct (sq (rn ?_))
    refine an (rt ?_)
    cases h
    simp [Ret, TB, EN, *]
  replace h := bI b23 h
  refine cf (sk (ab (an (rn ?_))))
  refine xX ⟨mL1, by omega, x21, (IntKind.i64.wrap (v5 + 1)), ?_, ?_, ?_, h⟩
  all_goals simp +decide only [F, reduceIte, Nat.reduceAdd, Bool.not_true, Bool.not_false, EN, *, -h]
instance : bC 57 (type_of% @c57) := ⟨@c57⟩
theorem c13 (p0 p1 r) (h : nJ p0 p1 = some r) : Sc 13 [aX (M.World.en p0), aI p1] [rI r] := by
 unfold nJ at h
 exact sgo 42 [.tmp 4] Tryz.func13
instance : bC 13 (type_of% @c13) := ⟨@c13⟩
end Go.Proofs.YtecmnmaaopkdfaaGreat.gen
