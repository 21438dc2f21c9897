/-
  Helper text. No conditions.
-/
import Derived.Test.YtecmnmaaopkdfaaGreatReleaseSiteTi
import Derived.Test.YtecmnmaaopkdfaaGreatReleaseSiteWmark0
namespace Go.Proofs.YtecmnmaaopkdfaaGreat.gen
open Go Go.Sh
set_option linter.unusedVariables false
set_option linter.unusedSimpArgs false
set_option maxRecDepth 20000
set_option maxHeartbeats 4000000
theorem aOg (p0 p1 r) (h : mL p0 p1 = some r) : Sc 210 [aL enB p0, aI p1] [rI r] := by
 have i1 := inv fun m s => ∃ v1 : Int, ∃ v5 : Int, (s.t 0 = vL enB p0 ∧ s.t 1 = vI v1 ∧ s.t 5 = vI v5) ∧ eX p0 m v1 v5 = some r
 have e1 := @eX.eq_2
 unfold mL at h
 exact sgo 22 [.tmp 4] Tryz.func210
instance : bD 210 (type_of% @aOg) := ⟨@aOg⟩
theorem aQI (p0 p1 r) (h : nH p0 p1 = some r) : Sc 274 [aL M.Cached.en p0, aI p1] [rI r] := by
 have i1 := inv fun m s => ∃ v1 : Int, ∃ v5 : Int, (s.t 0 = vL M.Cached.en p0 ∧ s.t 1 = vI v1 ∧ s.t 5 = vI v5) ∧ dC p0 m v1 v5 = some r
 have e1 := @dC.eq_2
 unfold nH at h
 exact sgo 85 [.tmp 4] Tryz.func274
instance : bD 274 (type_of% @aQI) := ⟨@aQI⟩
theorem aOu (p0 p1 r) (h : oY p0 p1 = some r) : Sc 207 [aL M.Cache.en p0, aI p1] [rI r] := by
 have i1 := inv fun m s => ∃ v1 : Int, ∃ v5 : Int, (s.t 0 = vL M.Cache.en p0 ∧ s.t 1 = vI v1 ∧ s.t 5 = vI v5) ∧ dU p0 m v1 v5 = some r
 have e1 := @dU.eq_2
 unfold oY at h
 exact sgo 31 [.tmp 4] Tryz.func207
instance : bD 207 (type_of% @aOu) := ⟨@aOu⟩
theorem aQS (p0 p1 r) (h : qA p0 p1 = some r) : Sc 211 [aL M.Field.en p0, aI p1] [rI r] := by
 have i1 := inv fun m s => ∃ v1 : Int, ∃ v5 : Int, (s.t 0 = vL M.Field.en p0 ∧ s.t 1 = vI v1 ∧ s.t 5 = vI v5) ∧ dY p0 m v1 v5 = some r
 have e1 := @dY.eq_2
 unfold qA at h
 exact sgo 32 [.tmp 4] Tryz.func211
instance : bD 211 (type_of% @aQS) := ⟨@aQS⟩
theorem aOT (p0 p1 r) (h : kK p0 p1 = some r) : Sc 135 [aL M.Item.en p0, aI p1] [rI r] := by
 have i1 := inv fun m s => ∃ v1 : Int, ∃ v5 : Int, (s.t 0 = vL M.Item.en p0 ∧ s.t 1 = vI v1 ∧ s.t 5 = vI v5) ∧ eU p0 m v1 v5 = some r
 have e1 := @eU.eq_2
 unfold kK at h
 exact sgo 54 [.tmp 4] Tryz.func135
instance : bD 135 (type_of% @aOT) := ⟨@aOT⟩
theorem aOt (p0 p1 r) (h : pF p0 p1 = some r) : Sc 208 [aL M.aH.en p0, aI p1] [rI r] := by
 have i1 := inv fun m s => ∃ v1 : Int, ∃ v5 : Int, (s.t 0 = vL M.aH.en p0 ∧ s.t 1 = vI v1 ∧ s.t 5 = vI v5) ∧ eJ p0 m v1 v5 = some r
 have e1 := @eJ.eq_2
 unfold pF at h
 exact sgo 41 [.tmp 4] Tryz.func208
instance : bD 208 (type_of% @aOt) := ⟨@aOt⟩
theorem aPG (p0 p1 r) (h : kM p0 p1 = some r) : Sc 209 [aL M.aA.en p0, aI p1] [rI r] := by
 have i1 := inv fun m s => ∃ v1 : Int, ∃ v5 : Int, (s.t 0 = vL M.aA.en p0 ∧ s.t 1 = vI v1 ∧ s.t 5 = vI v5) ∧ cC p0 m v1 v5 = some r
 have e1 := @cC.eq_2
 unfold kM at h
 exact sgo 33 [.tmp 4] Tryz.func209
instance : bD 209 (type_of% @aPG) := ⟨@aPG⟩
theorem aOW (p0 p1 r) (h : kV p0 p1 = some r) : Sc 137 [aL M.aW.en p0, aI p1] [rI r] := by
 have i1 := inv fun m s => ∃ v1 : Int, ∃ v5 : Int, (s.t 0 = vL M.aW.en p0 ∧ s.t 1 = vI v1 ∧ s.t 5 = vI v5) ∧ eH p0 m v1 v5 = some r
 have e1 := @eH.eq_2
 unfold kV at h
 exact sgo 81 [.tmp 4] Tryz.func137
instance : bD 137 (type_of% @aOW) := ⟨@aOW⟩
theorem aRq (p0 p1 r) (h : mR p0 p1 = some r) : Sc 128 [aL M.aE.en p0, aI p1] [rI r] := by
  unfold mR at h
  simp only [EN]
  refine sgn 271 [.tmp 4] Tryz.func128 fun base wd => ?_
  refine sq (rn ?_)
  refine an (sq (sq (rn ?_)))
  refine an (bk ?_)
  refine pZ (fun m s => ∃ v1 : Int, ∃ v5 : Int, s.t 0 = vL M.aE.en p0 ∧ s.t 1 = vI v1 ∧ s.t 5 = vI v5 ∧ cK p0 m v1 v5 = some r) fuel ?_ ?_
  · refine ⟨p1, 0, ?_, ?_, ?_, h⟩
    all_goals simp +decide only [F, reduceIte, Nat.reduceAdd, Bool.not_true, Bool.not_false, EN, *, -h]
  rintro mL1 s1 ⟨v1, v5, f2, f3, f4, h⟩
  rcases mL1 with _ | mL1
  · exact absurd h (by simp [cK])
  simp only [cK] at h
  refine sq (sq (rn ?_))
  refine an ?_
  rcases aA8 (decide (v5 < (List.length p0 : Int))) with b5 | b5
  · replace h := bH b5 h
    refine cf (xt (qM (tT (aAf (an (sq (rn ?_)))))))
    refine an (rt ?_)
    cases h
    simp [Ret, TB, EN, *]
  replace h := bI b5 h
  refine ct (sk (an (sq (bk (sq (sq ?_))))))
  obtain ⟨x6, h7, h⟩ := bind_some h
  obtain ⟨q8, q9, q10⟩ := aR h7
  obtain ⟨x11, h12, h⟩ := bind_some h
  refine rd1 mixed (aCn _ _ h12) ?_
  refine an ?_
  rcases eF (!(x6.Site.toList == x11.toList)) with b13 | b13
  · replace h := bI b13 h
    refine ct (sq (rn ?_))
    refine an (rt ?_)
    cases h
    simp [Ret, TB, EN, *]
  replace h := bH b13 h
  refine cf (sk (an (sq (rn ?_))))
  refine an (sq (sq ?_))
  obtain ⟨x14, h15, h⟩ := bind_some h
  refine rd1 mixed (aCn _ _ h15) ?_
  refine an ?_
  rcases eF (!(x6.Top.toList == x14.toList)) with b16 | b16
  · replace h := bI b16 h
    refine ct (sq (rn ?_))
    refine an (rt ?_)
    cases h
    simp [Ret, TB, EN, *]
  replace h := bH b16 h
  refine cf (sk (an (sq (rn ?_))))
  refine an (sq (sq ?_))
  obtain ⟨x17, h18, h⟩ := bind_some h
  refine rd1 mixed (aCn _ _ h18) ?_
  refine an ?_
  rcases eF (!(x6.Registration.Site.toList == x17.toList)) with b19 | b19
  · replace h := bI b19 h
    refine ct (sq (rn ?_))
    refine an (rt ?_)
    cases h
    simp [Ret, TB, EN, *]
  replace h := bH b19 h
  refine cf (sk (an (sq (rn ?_))))
  refine an (sq (sq (rn ?_)))
  refine an ?_
  rcases eF (x6.Registration.Installing != (IntKind.i64.wrap ((IntKind.i64.wrap ((IntKind.i64.wrap (v1 + 1)) + 1)) + 1))) with b20 | b20
  · replace h := bI b20 h
    refine ct (sq (rn ?_))
    refine an (rt ?_)
    cases h
    simp [Ret, TB, EN, *]
  replace h := bH b20 h
  refine cf (sk (an (sq (rn ?_))))
  refine an (sq (sq (rn ?_)))
  refine an ?_
  rcases eF (x6.Registration.Waiting != (IntKind.i64.wrap ((IntKind.i64.wrap ((IntKind.i64.wrap ((IntKind.i64.wrap (v1 + 1)) + 1)) + 1)) + 1))) with b21 | b21
  · replace h := bI b21 h
    refine ct (sq (rn ?_))
    refine an (rt ?_)
    cases h
    simp [Ret, TB, EN, *]
  replace h := bH b21 h
  refine cf (sk (an (sq (rn ?_))))
  refine an (sq (sq (rn ?_)))
  refine an ?_
  rcases eF (x6.Registration.Active != (IntKind.i64.wrap ((IntKind.i64.wrap ((IntKind.i64.wrap ((IntKind.i64.wrap ((IntKind.i64.wrap (v1 + 1)) + 1)) + 1)) + 1)) + 1))) with b22 | b22
  · replace h := bI b22 h
    refine ct (sq (rn ?_))
    refine an (rt ?_)
    cases h
    simp [Ret, TB, EN, *]
  replace h := bH b22 h
  refine cf (sk (an (sq (rn ?_))))
  refine an (sq ?_)
  refine cu (fun s => s.t 0 = vL M.aE.en p0 ∧ s.t 1 = vI (IntKind.i64.wrap ((IntKind.i64.wrap ((IntKind.i64.wrap ((IntKind.i64.wrap ((IntKind.i64.wrap ((IntKind.i64.wrap (v1 + 1)) + 1)) + 1)) + 1)) + 1)) + 1)) ∧ s.t 5 = vI v5 ∧ True) ?_
  rintro s23 ⟨f24, f25, f26, _⟩
  obtain ⟨x27, h28, h⟩ := bind_some h
  refine rn1 (aOu _ _ _ h28) ?_
  refine an (sq (sq (rn ?_)))
  refine an ?_
  rcases eF (decide (x27 < 0)) with b29 | b29
  · replace h := bI b29 h
    refine ct (sq (rn ?_))
    refine an (rt ?_)
    cases h
    simp [Ret, TB, EN, *]
  replace h := bH b29 h
  refine cf (sk (an (sq (sq ?_))))
  obtain ⟨x30, h31, h⟩ := bind_some h
  refine rd1 mixed (aCn _ _ h31) ?_
  refine an ?_
  rcases eF (!(x6.bC.Base.Name.toList == x30.toList)) with b32 | b32
  · replace h := bI b32 h
    refine ct (sq (rn ?_))
    refine an (rt ?_)
    cases h
    simp [Ret, TB, EN, *]
  replace h := bH b32 h
  refine cf (sk (an (sq (rn ?_))))
  refine an (sq (sq (rn ?_)))
  refine an ?_
  rcases eF (x6.bC.Base.Version != (IntKind.i64.wrap (x27 + 1))) with b33 | b33
  · replace h := bI b33 h
    refine ct (sq (rn ?_))
    refine an (rt ?_)
    cases h
    simp [Ret, TB, EN, *]
  replace h := bH b33 h
  refine cf (sk (an (sq (rn ?_))))
  refine an (sq ?_)
  obtain ⟨x34, h35, h⟩ := bind_some h
  refine rn1 (aOt _ _ _ h35) ?_
  refine an (sq (sq (rn ?_)))
  refine an ?_
  rcases eF (decide (x34 < 0)) with b36 | b36
  · replace h := bI b36 h
    refine ct (sq (rn ?_))
    refine an (rt ?_)
    cases h
    simp [Ret, TB, EN, *]
  replace h := bH b36 h
  refine cf (sk (an (sq ?_)))
  obtain ⟨x37, h38, h⟩ := bind_some h
  refine rn1 (aPG _ _ _ h38) ?_
  refine an (sq (sq (rn ?_)))
  refine an ?_
  rcases eF (decide (x37 < 0)) with b39 | b39
  · replace h := bI b39 h
    refine ct (sq (rn ?_))
    refine an (rt ?_)
    cases h
    simp [Ret, TB, EN, *]
  replace h := bH b39 h
  refine cf (sk (an (sq ?_)))
  obtain ⟨x40, h41, h⟩ := bind_some h
  refine rn1 (aOg _ _ _ h41) ?_
  refine an (sq (sq (rn ?_)))
  refine an ?_
  rcases eF (decide (x40 < 0)) with b42 | b42
  · replace h := bI b42 h
    refine ct (sq (rn ?_))
    refine an (rt ?_)
    cases h
    simp [Ret, TB, EN, *]
  replace h := bH b42 h
  refine cf (sk (an (sq (sq ?_))))
  refine cu (fun s => s.t 0 = vL M.aE.en p0 ∧ s.t 1 = vI x40 ∧ s.t 5 = vI v5 ∧ True) ?_
  rintro s43 ⟨f44, f45, f46, _⟩
  refine rn ?_
  refine an ?_
  rcases eF (x6.bC.Count != x40) with b47 | b47
  · replace h := bI b47 h
    refine ct (sq (rn ?_))
    refine an (rt ?_)
    cases h
    simp [Ret, TB, EN, *]
  replace h := bH b47 h
  refine cf (sk (an (sq (rn ?_))))
  refine an (sq (sq ?_))
  obtain ⟨x48, h49, h⟩ := bind_some h
  refine rd1 mixed (aCn _ _ h49) ?_
  refine an ?_
  rcases eF (!(x6.aC.Base.Name.toList == x48.toList)) with b50 | b50
  · replace h := bI b50 h
    refine ct (sq (rn ?_))
    refine an (rt ?_)
    cases h
    simp [Ret, TB, EN, *]
  replace h := bH b50 h
  refine cf (sk (an (sq (rn ?_))))
  refine an (sq ?_)
  obtain ⟨x51, h52, h⟩ := bind_some h
  refine rn1 (aOT _ _ _ h52) ?_
  refine an (sq (sq (rn ?_)))
  refine an ?_
  rcases eF (decide (x51 < 0)) with b53 | b53
  · replace h := bI b53 h
    refine ct (sq (rn ?_))
    refine an (rt ?_)
    cases h
    simp [Ret, TB, EN, *]
  replace h := bH b53 h
  refine cf (sk (an (sq (sq (rn ?_)))))
  refine an ?_
  rcases eF (x6.aC.Base.Auto != x51) with b54 | b54
  · replace h := bI b54 h
    refine ct (sq (rn ?_))
    refine an (rt ?_)
    cases h
    simp [Ret, TB, EN, *]
  replace h := bH b54 h
  refine cf (sk (an (sq (rn ?_))))
  refine an (sq (sq (rn ?_)))
  refine an ?_
  rcases eF (x6.aC.Seen != (IntKind.i64.wrap (x51 + 1))) with b55 | b55
  · replace h := bI b55 h
    refine ct (sq (rn ?_))
    refine an (rt ?_)
    cases h
    simp [Ret, TB, EN, *]
  replace h := bH b55 h
  refine cf (sk (an (sq (rn ?_))))
  refine an (sq (sq (rn ?_)))
  refine an ?_
  rcases eF (x6.aC.Sync.aV.Device != (IntKind.i64.wrap ((IntKind.i64.wrap (x51 + 1)) + 1))) with b56 | b56
  · replace h := bI b56 h
    refine ct (sq (rn ?_))
    refine an (rt ?_)
    cases h
    simp [Ret, TB, EN, *]
  replace h := bH b56 h
  refine cf (sk (an (sq (rn ?_))))
  refine an (sq (sq ?_))
  refine cu (fun s => s.t 0 = vL M.aE.en p0 ∧ s.t 1 = vI (IntKind.i64.wrap ((IntKind.i64.wrap ((IntKind.i64.wrap (x51 + 1)) + 1)) + 1)) ∧ s.t 5 = vI v5 ∧ True) ?_
  rintro s57 ⟨f58, f59, f60, _⟩
  refine rn ?_
  refine an ?_
  rcases eF (x6.aC.Sync.aV.Next != (IntKind.i64.wrap ((IntKind.i64.wrap ((IntKind.i64.wrap (x51 + 1)) + 1)) + 1))) with b61 | b61
  · replace h := bI b61 h
    refine ct (sq (rn ?_))
    refine an (rt ?_)
    cases h
    simp [Ret, TB, EN, *]
  replace h := bH b61 h
  refine cf (sk (an (sq (rn ?_))))
  refine an (sq ?_)
  obtain ⟨x62, h63, h⟩ := bind_some h
  refine rn1 (aOW _ _ _ h63) ?_
  refine an (sq (sq (rn ?_)))
  refine an ?_
  rcases eF (decide (x62 < 0)) with b64 | b64
  · replace h := bI b64 h
    refine ct (sq (rn ?_))
    refine an (rt ?_)
    cases h
    simp [Ret, TB, EN, *]
  replace h := bH b64 h
  refine cf (sk (an (sq (sq (rn ?_)))))
  refine an ?_
  rcases eF (x6.aC.Sync.Tries != x62) with b65 | b65
  · replace h := bI b65 h
    refine ct (sq (rn ?_))
    refine an (rt ?_)
    cases h
    simp [Ret, TB, EN, *]
  replace h := bH b65 h
  refine cf (sk (an (sq (rn ?_))))
  refine an (sq (sq (rn ?_)))
  refine an ?_
  rcases eF (x6.aC.Sync.WaitUntil != (IntKind.i64.wrap (x62 + 1))) with b66 | b66
  · replace h := bI b66 h
    refine ct (sq (rn ?_))
    refine an (rt ?_)
    cases h
    simp [Ret, TB, EN, *]
  replace h := bH b66 h
  refine cf (sk (an (sq (rn ?_))))
  refine an (sq (sq (rn ?_)))
  refine an ?_
  rcases eF (x6.LastUsed != (IntKind.i64.wrap ((IntKind.i64.wrap (x62 + 1)) + 1))) with b67 | b67
  · replace h := bI b67 h
    refine ct (sq (rn ?_))
    refine an (rt ?_)
    cases h
    simp [Ret, TB, EN, *]
  replace h := bH b67 h
  refine cf (sk (an (sq (rn ?_))))
  refine an (sq (sq (rn ?_)))
  refine an ?_
  rcases eF (!(x6.Persistent == ((Int.tmod (IntKind.i64.wrap ((IntKind.i64.wrap ((IntKind.i64.wrap (x62 + 1)) + 1)) + 1)) 3) == 0))) with b68 | b68
  · replace h := bI b68 h
    refine ct (sq (rn ?_))
    refine an (rt ?_)
    cases h
    simp [Ret, TB, EN, *]
  replace h := bH b68 h
  refine cf (sk (an (rn ?_)))
  refine ab (an (rn ?_))
  refine yW ⟨mL1, by omega, (IntKind.i64.wrap ((IntKind.i64.wrap ((IntKind.i64.wrap ((IntKind.i64.wrap (x62 + 1)) + 1)) + 1)) + 1)), (IntKind.i64.wrap (v5 + 1)), ?_, ?_, ?_, h⟩
  all_goals simp +decide only [F, reduceIte, Nat.reduceAdd, Bool.not_true, Bool.not_false, EN, *, -h]
instance : bD 128 (type_of% @aRq) := ⟨@aRq⟩
theorem c52 (p0 p1 r) (h : tS p0 p1 = some r) : Sc 52 [aX (M.aK.en p0), aI p1] [rI r] := by
 unfold tS at h
 exact sgo 12 [.tmp 4] Tryz.func52
instance : bD 52 (type_of% @c52) := ⟨@c52⟩
theorem aOs (p0 p1 r) (h : nB p0 p1 = some r) : Sc 129 [aL M.aM.en p0, aI p1] [rI r] := by
 have i1 := inv fun m s => ∃ v1 : Int, ∃ v5 : Int, (s.t 0 = vL M.aM.en p0 ∧ s.t 1 = vI v1 ∧ s.t 5 = vI v5) ∧ dD p0 m v1 v5 = some r
 have e1 := @dD.eq_2
 unfold nB at h
 exact sgo 32 [.tmp 4] Tryz.func129
instance : bD 129 (type_of% @aOs) := ⟨@aOs⟩
theorem aO5 (p0 p1 r) (h : oQ p0 p1 = some r) : Sc 130 [aL M.Instr.en p0, aI p1] [rI r] := by
 have i1 := inv fun m s => ∃ v1 : Int, ∃ v5 : Int, (s.t 0 = vL M.Instr.en p0 ∧ s.t 1 = vI v1 ∧ s.t 5 = vI v5) ∧ dW p0 m v1 v5 = some r
 have e1 := @dW.eq_2
 unfold oQ at h
 exact sgo 50 [.tmp 4] Tryz.func130
instance : bD 130 (type_of% @aO5) := ⟨@aO5⟩
theorem aPF (p0 p1 r) (h : vF p0 p1 = some r) : Sc 131 [aL enI p0, aI p1] [rI r] := by
 have i1 := inv fun m s => ∃ v1 : Int, ∃ v5 : Int, (s.t 0 = vL enI p0 ∧ s.t 1 = vI v1 ∧ s.t 5 = vI v5) ∧ fN p0 m v1 v5 = some r
 have e1 := @fN.eq_2
 unfold vF at h
 exact sgo 21 [.tmp 4] Tryz.func131
instance : bD 131 (type_of% @aPF) := ⟨@aPF⟩
theorem c53 (p0 p1 r) (h : sJ p0 p1 = some r) : Sc 53 [aL M.bJ.en p0, aI p1] [rI r] := by
  unfold sJ at h
  simp only [EN]
  refine sgn 124 [.tmp 4] Tryz.func53 fun base wd => ?_
  refine sq (rn ?_)
  refine an (sq (sq (rn ?_)))
  refine an (bk ?_)
  refine pZ (fun m s => ∃ v1 : Int, ∃ v5 : Int, s.t 0 = vL M.bJ.en p0 ∧ s.t 1 = vI v1 ∧ s.t 5 = vI v5 ∧ dK p0 m v1 v5 = some r) fuel ?_ ?_
  · refine ⟨p1, 0, ?_, ?_, ?_, h⟩
    all_goals simp +decide only [F, reduceIte, Nat.reduceAdd, Bool.not_true, Bool.not_false, EN, *, -h]
  rintro mL1 s1 ⟨v1, v5, f2, f3, f4, h⟩
  rcases mL1 with _ | mL1
  · exact absurd h (by simp [dK])
  simp only [dK] at h
  refine sq (sq (rn ?_))
  refine an ?_
  rcases aA8 (decide (v5 < (List.length p0 : Int))) with b5 | b5
  · replace h := bH b5 h
    refine cf (xt (qM (tT (aAf (an (sq (rn ?_)))))))
    refine an (rt ?_)
    cases h
    simp [Ret, TB, EN, *]
  replace h := bI b5 h
  refine ct (sk (an (sq (bk (sq (sq ?_))))))
  obtain ⟨x6, h7, h⟩ := bind_some h
  obtain ⟨q8, q9, q10⟩ := aR h7
  refine rn ?_
  refine an ?_
  rcases eF (x6.Id != v1) with b11 | b11
  · replace h := bI b11 h
    refine ct (sq (rn ?_))
    refine an (rt ?_)
    cases h
    simp [Ret, TB, EN, *]
  replace h := bH b11 h
  refine cf (sk (an (sq (rn ?_))))
  refine an (sq (sq ?_))
  obtain ⟨x12, h13, h⟩ := bind_some h
  refine rd1 mixed (aCn _ _ h13) ?_
  refine an ?_
  rcases eF (!(x6.Site.toList == x12.toList)) with b14 | b14
  · replace h := bI b14 h
    refine ct (sq (rn ?_))
    refine an (rt ?_)
    cases h
    simp [Ret, TB, EN, *]
  replace h := bH b14 h
  refine cf (sk (an (sq (rn ?_))))
  refine an (sq (sq ?_))
  obtain ⟨x15, h16, h⟩ := bind_some h
  refine rd1 mixed (aCn _ _ h16) ?_
  refine an ?_
  rcases eF (!(x6.Top.toList == x15.toList)) with b17 | b17
  · replace h := bI b17 h
    refine ct (sq (rn ?_))
    refine an (rt ?_)
    cases h
    simp [Ret, TB, EN, *]
  replace h := bH b17 h
  refine cf (sk (an (sq (rn ?_))))
  refine an (sq (sq (rn ?_)))
  refine an ?_
  rcases eF (x6.Version != (IntKind.i64.wrap ((IntKind.i64.wrap ((IntKind.i64.wrap (v1 + 1)) + 1)) + 1))) with b18 | b18
  · replace h := bI b18 h
    refine ct (sq (rn ?_))
    refine an (rt ?_)
    cases h
    simp [Ret, TB, EN, *]
  replace h := bH b18 h
  refine cf (sk (an (sq (rn ?_))))
  refine an (sq ?_)
  obtain ⟨x19, h20, h⟩ := bind_some h
  refine rn1 (aOs _ _ _ h20) ?_
  refine an (sq (sq (rn ?_)))
  refine an ?_
  rcases eF (decide (x19 < 0)) with b21 | b21
  · replace h := bI b21 h
    refine ct (sq (rn ?_))
    refine an (rt ?_)
    cases h
    simp [Ret, TB, EN, *]
  replace h := bH b21 h
  refine cf (sk (an (sq ?_)))
  obtain ⟨x22, h23, h⟩ := bind_some h
  refine rn1 (aO5 _ _ _ h23) ?_
  refine an (sq (sq (rn ?_)))
  refine an ?_
  rcases eF (decide (x22 < 0)) with b24 | b24
  · replace h := bI b24 h
    refine ct (sq (rn ?_))
    refine an (rt ?_)
    cases h
    simp [Ret, TB, EN, *]
  replace h := bH b24 h
  refine cf (sk (an (sq (sq ?_))))
  refine cu (fun s => s.t 0 = vL M.bJ.en p0 ∧ s.t 1 = vI x22 ∧ s.t 5 = vI v5 ∧ True) ?_
  rintro s25 ⟨f26, f27, f28, _⟩
  refine rn ?_
  refine an ?_
  rcases eF (x6.Machine.Pc != x22) with b29 | b29
  · replace h := bI b29 h
    refine ct (sq (rn ?_))
    refine an (rt ?_)
    cases h
    simp [Ret, TB, EN, *]
  replace h := bH b29 h
  refine cf (sk (an (sq (rn ?_))))
  refine an (sq ?_)
  obtain ⟨x30, h31, h⟩ := bind_some h
  refine rn1 (aPF _ _ _ h31) ?_
  refine an (sq (sq (rn ?_)))
  refine an ?_
  rcases eF (decide (x30 < 0)) with b32 | b32
  · replace h := bI b32 h
    refine ct (sq (rn ?_))
    refine an (rt ?_)
    cases h
    simp [Ret, TB, EN, *]
  replace h := bH b32 h
  refine cf (sk (an (sq (sq (rn ?_)))))
  refine an ?_
  rcases eF (x6.Machine.Steps != x30) with b33 | b33
  · replace h := bI b33 h
    refine ct (sq (rn ?_))
    refine an (rt ?_)
    cases h
    simp [Ret, TB, EN, *]
  replace h := bH b33 h
  refine cf (sk (an (sq (rn ?_))))
  refine an (sq (sq (rn ?_)))
  refine an ?_
  rcases eF (!(x6.Machine.Done == ((Int.tmod (IntKind.i64.wrap (x30 + 1)) 3) == 0))) with b34 | b34
  · replace h := bI b34 h
    refine ct (sq (rn ?_))
    refine an (rt ?_)
    cases h
    simp [Ret, TB, EN, *]
  replace h := bH b34 h
  refine cf (sk (an (sq (rn ?_))))
  refine an (sq (sq (rn ?_)))
  refine an ?_
  rcases eF (!(x6.Machine.Wait == ((Int.tmod (IntKind.i64.wrap ((IntKind.i64.wrap (x30 + 1)) + 1)) 3) == 0))) with b35 | b35
  · replace h := bI b35 h
    refine ct (sq (rn ?_))
    refine an (rt ?_)
    cases h
    simp [Ret, TB, EN, *]
  replace h := bH b35 h
  refine cf (sk (an (rn ?_)))
  refine ab (an (rn ?_))
  refine yW ⟨mL1, by omega, (IntKind.i64.wrap ((IntKind.i64.wrap ((IntKind.i64.wrap (x30 + 1)) + 1)) + 1)), (IntKind.i64.wrap (v5 + 1)), ?_, ?_, ?_, h⟩
  all_goals simp +decide only [F, reduceIte, Nat.reduceAdd, Bool.not_true, Bool.not_false, EN, *, -h]
instance : bD 53 (type_of% @c53) := ⟨@c53⟩
theorem aSA (p0 p1 r) (h : rR p0 p1 = some r) : Sc 132 [aL M.bY.en p0, aI p1] [rI r] := by
 have i1 := inv fun m s => ∃ v1 : Int, ∃ v5 : Int, (s.t 0 = vL M.bY.en p0 ∧ s.t 1 = vI v1 ∧ s.t 5 = vI v5) ∧ eY p0 m v1 v5 = some r
 have e1 := @eY.eq_2
 unfold rR at h
 exact sgo 54 [.tmp 4] Tryz.func132
instance : bD 132 (type_of% @aSA) := ⟨@aSA⟩
theorem c54 (p0 p1 r) (h : oL p0 p1 = some r) : Sc 54 [aX (M.aQ.en p0), aI p1] [rI r] := by
 unfold oL at h
 exact sgo 12 [.tmp 4] Tryz.func54
instance : bD 54 (type_of% @c54) := ⟨@c54⟩
theorem aQw (p0 p1 r) (h : sV p0 p1 = some r) : Sc 133 [aL M.fA.en p0, aI p1] [rI r] := by
 have i1 := inv fun m s => ∃ v1 : Int, ∃ v5 : Int, (s.t 0 = vL M.fA.en p0 ∧ s.t 1 = vI v1 ∧ s.t 5 = vI v5) ∧ eR p0 m v1 v5 = some r
 have e1 := @eR.eq_2
 unfold sV at h
 exact sgo 40 [.tmp 4] Tryz.func133
instance : bD 133 (type_of% @aQw) := ⟨@aQw⟩
theorem c55 (p0 p1 r) (h : tQ p0 p1 = some r) : Sc 55 [aX (M.Channel.en p0), aI p1] [rI r] := by
 unfold tQ at h
 exact sgo 12 [.tmp 4] Tryz.func55
instance : bD 55 (type_of% @c55) := ⟨@c55⟩
theorem aSV (p0 p1 r) (h : nT p0 p1 = some r) : Sc 134 [aL enS p0, aI p1] [rI r] := by
 have i1 := inv fun m s => ∃ v1 : Int, ∃ v5 : Int, (s.t 0 = vL enS p0 ∧ s.t 1 = vI v1 ∧ s.t 5 = vI v5) ∧ dE p0 m v1 v5 = some r
 have e1 := @dE.eq_2
 unfold nT at h
 exact sgo 22 [.tmp 4] Tryz.func134
instance : bD 134 (type_of% @aSV) := ⟨@aSV⟩
theorem c56 (p0 p1 r) (h : sP p0 p1 = some r) : Sc 56 [aL M.Site.en p0, aI p1] [rI r] := by
 have i1 := inv fun m s => ∃ v1 : Int, ∃ v5 : Int, (s.t 0 = vL M.Site.en p0 ∧ s.t 1 = vI v1 ∧ s.t 5 = vI v5) ∧ eZ p0 m v1 v5 = some r
 have e1 := @eZ.eq_2
 unfold sP at h
 exact sgo 52 [.tmp 4] Tryz.func56
instance : bD 56 (type_of% @c56) := ⟨@c56⟩
theorem aOq (p0 p1 r) (h : lY p0 p1 = some r) : Sc 136 [aL M.aG.en p0, aI p1] [rI r] := by
 have i1 := inv fun m s => ∃ v1 : Int, ∃ v5 : Int, (s.t 0 = vL M.aG.en p0 ∧ s.t 1 = vI v1 ∧ s.t 5 = vI v5) ∧ cN p0 m v1 v5 = some r
 have e1 := @cN.eq_2
 unfold lY at h
 exact sgo 31 [.tmp 4] Tryz.func136
instance : bD 136 (type_of% @aOq) := ⟨@aOq⟩
theorem c57 (p0 p1 r) (h : mQ p0 p1 = some r) : Sc 57 [aL M.Server.en p0, aI p1] [rI r] := by
  unfold mQ at h
  simp only [EN]
  refine sgn 62 [.tmp 4] Tryz.func57 fun base wd => ?_
  refine sq (rn ?_)
  refine an (sq (sq (rn ?_)))
  refine an (bk ?_)
  refine pZ (fun m s => ∃ v1 : Int, ∃ v5 : Int, s.t 0 = vL M.Server.en p0 ∧ s.t 1 = vI v1 ∧ s.t 5 = vI v5 ∧ cE p0 m v1 v5 = some r) fuel ?_ ?_
  · refine ⟨p1, 0, ?_, ?_, ?_, h⟩
    all_goals simp +decide only [F, reduceIte, Nat.reduceAdd, Bool.not_true, Bool.not_false, EN, *, -h]
  rintro mL1 s1 ⟨v1, v5, f2, f3, f4, h⟩
  rcases mL1 with _ | mL1
  · exact absurd h (by simp [cE])
  simp only [cE] at h
  refine sq (sq (rn ?_))
  refine an ?_
  rcases aA8 (decide (v5 < (List.length p0 : Int))) with b5 | b5
  · replace h := bH b5 h
    refine cf (xt (qM (tT (aAf (an (sq (rn ?_)))))))
    refine an (rt ?_)
    cases h
    simp [Ret, TB, EN, *]
  replace h := bI b5 h
  refine ct (sk (an (sq (bk (sq (sq ?_))))))
  obtain ⟨x6, h7, h⟩ := bind_some h
  obtain ⟨q8, q9, q10⟩ := aR h7
  obtain ⟨x11, h12, h⟩ := bind_some h
  refine rd1 mixed (aCn _ _ h12) ?_
  refine an ?_
  rcases eF (!(x6.aH.Name.toList == x11.toList)) with b13 | b13
  · replace h := bI b13 h
    refine ct (sq (rn ?_))
    refine an (rt ?_)
    cases h
    simp [Ret, TB, EN, *]
  replace h := bH b13 h
  refine cf (sk (an (sq (rn ?_))))
  refine an (sq ?_)
  obtain ⟨x14, h15, h⟩ := bind_some h
  refine rn1 (aOT _ _ _ h15) ?_
  refine an (sq (sq (rn ?_)))
  refine an ?_
  rcases eF (decide (x14 < 0)) with b16 | b16
  · replace h := bI b16 h
    refine ct (sq (rn ?_))
    refine an (rt ?_)
    cases h
    simp [Ret, TB, EN, *]
  replace h := bH b16 h
  refine cf (sk (an (sq (sq (rn ?_)))))
  refine an ?_
  rcases eF (x6.aH.Auto != x14) with b17 | b17
  · replace h := bI b17 h
    refine ct (sq (rn ?_))
    refine an (rt ?_)
    cases h
    simp [Ret, TB, EN, *]
  replace h := bH b17 h
  refine cf (sk (an (sq (rn ?_))))
  refine an (sq ?_)
  obtain ⟨x18, h19, h⟩ := bind_some h
  refine rn1 (aOq _ _ _ h19) ?_
  refine an (sq (sq (rn ?_)))
  refine an ?_
  rcases eF (decide (x18 < 0)) with b20 | b20
  · replace h := bI b20 h
    refine ct (sq (rn ?_))
    refine an (rt ?_)
    cases h
    simp [Ret, TB, EN, *]
  replace h := bH b20 h
  refine cf (sk (an (sq ?_)))
  obtain ⟨x21, h22, h⟩ := bind_some h
  refine rn1 (aOW _ _ _ h22) ?_
  refine an (sq (rn ?_))
  refine an ?_
  rcases eF (decide (x21 < 0)) with b23 | b23
  · replace h := bI b23 h
    refine ct (sq (rn ?_))
    refine an (rt ?_)
    cases h
    simp [Ret, TB, EN, *]
  replace h := bH b23 h
  refine cf (sk (ab (an (rn ?_))))
  refine yW ⟨mL1, by omega, x21, (IntKind.i64.wrap (v5 + 1)), ?_, ?_, ?_, h⟩
  all_goals simp +decide only [F, reduceIte, Nat.reduceAdd, Bool.not_true, Bool.not_false, EN, *, -h]
instance : bD 57 (type_of% @c57) := ⟨@c57⟩
theorem c13 (p0 p1 r) (h : mP p0 p1 = some r) : Sc 13 [aX (M.World.en p0), aI p1] [rI r] := by
 unfold mP at h
 exact sgo 42 [.tmp 4] Tryz.func13
instance : bD 13 (type_of% @c13) := ⟨@c13⟩
end Go.Proofs.YtecmnmaaopkdfaaGreat.gen
