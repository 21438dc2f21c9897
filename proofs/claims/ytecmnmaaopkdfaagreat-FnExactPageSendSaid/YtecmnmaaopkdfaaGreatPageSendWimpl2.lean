/-
  Helper text. No conditions.
-/
import Derived.Test.YtecmnmaaopkdfaaGreatPageSendTi
import Derived.Test.YtecmnmaaopkdfaaGreatPageSendWimpl0
import Derived.Test.YtecmnmaaopkdfaaGreatPageSendWimpl1
namespace Go.Proofs.YtecmnmaaopkdfaaGreat.gen
open Go Go.Sh
set_option linter.unusedVariables false
set_option linter.unusedSimpArgs false
set_option maxRecDepth 20000
set_option maxHeartbeats 4000000
theorem aTN (p0 r) (h : zW p0 = some r) : Sc 109 [aX (M.Site.en p0)] [rB r] := by
 have i1 := inv fun m s => ∃ v8 : Int, (s.t 1 = vP 1 1 0 ∧ s.t 6 = vL enS p0.Files ∧ s.t 7 = vI (List.length p0.Files : Int) ∧ s.t 8 = vI v8 ∧ s.h 1 = (1, oX 75 (M.Site.en p0))) ∧ hD p0 m v8 = some r
 have e1 := @hD.eq_2
 unfold zW at h
 exact sgo 45 [.tmp 2] Tryz.func109
instance : bD 109 (type_of% @aTN) := ⟨@aTN⟩
theorem aSj (p0 p1 r) (h : oF p0 p1 = some r) : Sc 103 [aL enS p0, aS p1] [rI r] := by
 have i1 := inv fun m s => ∃ v8 : Int, (s.t 0 = vL enS p0 ∧ s.t 1 = vS p1 ∧ s.t 7 = vI (List.length p0 : Int) ∧ s.t 8 = vI v8) ∧ eO p0 p1 m v8 = some r
 have e1 := @eO.eq_2
 unfold oF at h
 exact sgo 19 [.tmp 4] Tryz.func103
instance : bD 103 (type_of% @aSj) := ⟨@aSj⟩
theorem c37 (p0 r) (h : pY p0 = some r) : Sc 37 [aS p0] [rI r] := by
 unfold pY at h
 exact sgo 6 [.tmp 2] Tryz.func37
instance : bD 37 (type_of% @c37) := ⟨@c37⟩
theorem aQS (p0 r) (h : vC p0 = some r) : Sc 110 [aX (M.Server.en p0)] [rB r] := by
 have i1 := inv fun m s => ∃ v10 : Int, (s.t 1 = vP 1 1 0 ∧ s.t 8 = vL M.aH.en p0.aH ∧ s.t 9 = vI (List.length p0.aH : Int) ∧ s.t 10 = vI v10 ∧ s.h 1 = (1, oX 145 (M.Server.en p0))) ∧ fQ p0 m v10 = some r
 have e1 := @fQ.eq_2
 have i2 := inv fun m s => ∃ v45 : Int, (s.t 1 = vP 1 1 0 ∧ s.t 43 = vL M.aW.en p0.Changes ∧ s.t 44 = vI (List.length p0.Changes : Int) ∧ s.t 45 = vI v45 ∧ s.h 1 = (1, oX 145 (M.Server.en p0))) ∧ gR p0 m v45 = some r
 have e2 := @gR.eq_2
 unfold vC at h
 exact sgo 68 [.tmp 2] Tryz.func110
instance : bD 110 (type_of% @aQS) := ⟨@aQS⟩
theorem c38 (p0 r) (h : xA p0 = some r) : Sc 38 [aX (M.World.en p0)] [rB r] := by
 have i1 := inv fun m s => ∃ v56 : Int, (s.t 1 = vP 1 1 0 ∧ s.t 54 = vL M.bF.en p0.Pages ∧ s.t 55 = vI (List.length p0.Pages : Int) ∧ s.t 56 = vI v56 ∧ s.h 1 = (1, oX 50 (M.World.en p0))) ∧ eP p0 m v56 = some r
 have e1 := @eP.eq_2
 have i2 := inv fun m s => ∃ v101 : Int, (s.t 1 = vP 1 1 0 ∧ s.t 99 = vL M.Site.en p0.Sites ∧ s.t 100 = vI (List.length p0.Sites : Int) ∧ s.t 101 = vI v101 ∧ s.h 1 = (1, oX 50 (M.World.en p0))) ∧ gI p0 m v101 = some r
 have e2 := @gI.eq_2
 unfold xA at h
 exact sgo 126 [.tmp 2] Tryz.func38
instance : bD 38 (type_of% @c38) := ⟨@c38⟩
theorem aPU (p0 c0 r) (h : nX p0 c0 = some r) : Sc 142 [aX (M.bF.en p0), (false, [.ptr [.int .i64 c0]])] [rB r] := by
 unfold nX at h
 exact sgo 8 [.tmp 3] Tryz.func142
instance : bD 142 (type_of% @aPU) := ⟨@aPU⟩
theorem aOm (p0 : List M.bF) (p1 : M.bF → Option Bool) (f1_ : FuncId) (k1_ : List D) (hp1 : ∀ z0 r, p1 z0 = some r → qQ Tryz.prog f1_ ((true, M.bF.en z0) ::  k1_.map fun c => (false, [c])) [(false, [.ro (.bool r)])]) (r : Int) (h : fB p0 p1 = some r) : Sc 141 [(false, [.sl (List.map M.bF.en p0)]), (false, [.fn f1_ k1_])] [rI r] := by
  unfold fB at h
  simp only [EN]
  refine sgn 19 [.tmp 4] Tryz.func141 fun base wd => ?_
  refine sq (rn ?_)
  refine an (sq (sq (rn ?_)))
  refine an (bk ?_)
  refine mK (fun m s => ∃ v8 : Int, s.t 0 = vL M.bF.en p0 ∧ s.t 1 = .v false [.dat (.fn f1_ k1_)] ∧ s.t 7 = vI (List.length p0 : Int) ∧ s.t 8 = vI v8 ∧ bY p0 p1 m v8 = some r) fuel ?_ ?_
  · refine ⟨0, ?_, ?_, ?_, ?_, h⟩
    all_goals simp +decide only [F, reduceIte, Nat.reduceAdd, Bool.not_true, Bool.not_false, EN, *, -h]
  rintro mL1 s1 ⟨v8, f2, f3, f4, f5, h⟩
  rcases mL1 with _ | mL1
  · exact absurd h (by simp [bY])
  simp only [bY] at h
  refine sq (rn ?_)
  refine an (sq ?_)
  rcases aA5 (decide (v8 < (List.length p0 : Int))) with b6 | b6
  · replace h := bI b6 h
    refine cf (xt (oM (qR (aAn (an (sq (rn ?_)))))))
    refine an (rt ?_)
    cases h
    simp [Ret, TB, EN, *]
  replace h := bJ b6 h
  refine ct (sk (an (sq (bk (sq (rn ?_))))))
  refine an (sq ?_)
  obtain ⟨x7, h8, h⟩ := bind_some h
  obtain ⟨q9, q10, q11⟩ := aR h8
  obtain ⟨x12, h13, h⟩ := bind_some h
  refine rn1 (hp1 x7 x12 h13) ?_
  refine an ?_
  rcases dX x12 with b14 | b14
  · replace h := bJ b14 h
    refine ct (sq (rn ?_))
    refine an (rt ?_)
    cases h
    simp [Ret, TB, EN, *]
  replace h := bI b14 h
  refine cf (sk (ab (an (rn ?_))))
  refine wQ ⟨mL1, by omega, (IntKind.i64.wrap (v8 + 1)), ?_, ?_, ?_, ?_, h⟩
  all_goals simp +decide only [F, reduceIte, Nat.reduceAdd, Bool.not_true, Bool.not_false, EN, *, -h]
instance : bD 141 (type_of% @aOm) := ⟨@aOm⟩
theorem c60 (p0 p1 r) (h : sU p0 p1 = some r) : Sc 60 [aX (M.World.en p0), aI p1] [rI r] := by
  unfold sU at h
  simp only [EN]
  refine sgn 9 [.tmp 4] Tryz.func60 fun base wd => ?_
  refine sq (rn ?_)
  refine an (sq ?_)
  obtain ⟨x1, h2, h⟩ := bind_some h
  refine rn1 (aOm p0.Pages (fun z0 => nX z0 p1) 142 [.ptr [.int .i64 p1]] (fun z0 r hr => aPU z0 p1 r hr) x1 h2) ?_
  refine an (rt ?_)
  cases h
  simp [Ret, TB, EN, *]
instance : bD 60 (type_of% @c60) := ⟨@c60⟩
theorem aPa (p0 c0 r) (h : nW p0 c0 = some r) : Sc 143 [aX (M.bF.en p0), (false, [.ptr [.int .i64 c0]])] [rB r] := by
 unfold nW at h
 exact sgo 8 [.tmp 3] Tryz.func143
instance : bD 143 (type_of% @aPa) := ⟨@aPa⟩
theorem aOq (p0 p1 r) (h : xM p0 p1 = some r) : Sc 144 [aX (M.bF.en p0), aX (M.bF.en p1)] [rB r] := by
 unfold xM at h
 exact sgo 24 [.tmp 4] Tryz.func144
instance : bD 144 (type_of% @aOq) := ⟨@aOq⟩
theorem aO1 (p0 p1 r) (h : uV p0 p1 = some r) : Sc 145 [aX (M.Channel.en p0), aI p1] [rW 183 3 M.cN.en r] := by
 have i1 := inv fun m s => ∃ v12 : Int, ∃ r8 : List M.cN, ∃ u8 : Nat, (s.t 1 = vI p1 ∧ s.t 5 = vR 100008 u8 ∧ s.t 10 = vL M.cN.en p0.Mails ∧ s.t 11 = vI (List.length p0.Mails : Int) ∧ s.t 12 = vI v12 ∧ s.h 100008 = (u8, oW 183 3 M.cN.en r8)) ∧ gU p0 p1 m v12 r8 = some r
 have e1 := @gU.eq_2
 unfold uV at h
 exact sgo 26 [.tmp 4] Tryz.func145
instance : bD 145 (type_of% @aO1) := ⟨@aO1⟩
theorem c61 (p0 p1 p2 p3 r) (h : tQ p0 p1 p2 p3 = some r) : Sc 61 [aX (M.Channel.en p0), aL M.bF.en p1, aI p2, aI p3] [(true, M.Channel.rs r.1), rI r.2] := by
  unfold tQ at h
  simp only [EN]
  refine sgn 58 [.cell 8 46, .tmp 9] Tryz.func61 fun base wd => ?_
  refine sq (rn ?_)
  refine an (sq ?_)
  obtain ⟨x1, h2, h⟩ := bind_some h
  refine rn1 (aPX _ _ h2) ?_
  refine an (sq ?_)
  obtain ⟨x3, h4, h⟩ := bind_some h
  refine rn1 (aOm p1 (fun z0 => nW z0 p2) 143 [.ptr [.int .i64 p2]] (fun z0 r hr => aPa z0 p2 r hr) x3 h4) ?_
  refine an (sq (sq (rn ?_)))
  refine an ?_
  rcases dX (decide (x3 < 0)) with b5 | b5
  · replace h := bJ b5 h
    refine ct (sq (rn ?_))
    refine an (rt ?_)
    cases h
    simp [Ret, TB, EN, *]
  replace h := bI b5 h
  refine cf (sk (an (sq (rn ?_))))
  refine an (sq (sq (rn ?_)))
  refine an (bk ?_)
  refine mK (fun m s => ∃ v12 : Int, ∃ v25 : Int, ∃ r16 : List M.cN, ∃ u16 : Nat, s.t 1 = vL M.bF.en p1 ∧ s.t 3 = vI p3 ∧ s.t 6 = vP 6 1 0 ∧ s.t 8 = vP 8 1 0 ∧ s.t 10 = vP 10 1 0 ∧ s.t 11 = vI x3 ∧ s.t 12 = vI v12 ∧ s.t 23 = vL M.bF.en p1 ∧ s.t 24 = vI (List.length p1 : Int) ∧ s.t 25 = vI v25 ∧ s.h 6 = (1, oB 3 [cI p2]) ∧ s.h 8 = (1, oB 46 [.nil]) ∧ s.h 10 = (1, oB 46 [.row 100016 u16]) ∧ s.h 100016 = (u16, oW 183 3 M.cN.en r16) ∧ cP p1 p2 p3 x3 m v12 v25 r16 = some r) fuel ?_ ?_
  · refine ⟨0, 0, x1.Mails, 1, ?_, ?_, ?_, ?_, ?_, ?_, ?_, ?_, ?_, ?_, ?_, ?_, ?_, ?_, h⟩
    all_goals simp +decide only [F, reduceIte, Nat.reduceAdd, Bool.not_true, Bool.not_false, EN, *, -h]
  rintro mL1 s6 ⟨v12, v25, r16, u16, f7, f8, f9, f10, f11, f12, f13, f14, f15, f16, f17, f18, f19, f20, h⟩
  rcases mL1 with _ | mL1
  · exact absurd h (by simp [cP])
  simp only [cP] at h
  refine sq (rn ?_)
  refine an (sq ?_)
  rcases aA5 (decide (v25 < (List.length p1 : Int))) with b21 | b21
  · replace h := bI b21 h
    refine cf (xt (oM (qR (aAn (an (sq (rn ?_)))))))
    refine an (rt ?_)
    cases h
    simp [Ret, TB, EN, *]
  replace h := bJ b21 h
  refine ct (sk (an (sq (bk (sq ?_)))))
  obtain ⟨x22, h23, h⟩ := bind_some h
  obtain ⟨q24, q25, q26⟩ := aR h23
  refine rn ?_
  refine an (sq ?_)
  obtain ⟨x27, h28, h⟩ := bind_some h
  obtain ⟨q29, q30, q31⟩ := aR h28
  obtain ⟨x32, h33, h⟩ := bind_some h
  rcases aA5 x32 with b34 | b34
  · replace h := bI b34 h
    refine rd1 mixed (aOq _ _ _ h33) ?_
    refine an (cf (sk (ab (an (rn ?_)))))
    refine wQ ⟨mL1, by omega, v12, (IntKind.i64.wrap (v25 + 1)), r16, u16, ?_, ?_, ?_, ?_, ?_, ?_, ?_, ?_, ?_, ?_, ?_, ?_, ?_, ?_, h⟩
    all_goals simp +decide only [F, reduceIte, Nat.reduceAdd, Bool.not_true, Bool.not_false, EN, *, -h]
  replace h := bJ b34 h
  obtain ⟨x35, h36, h⟩ := bind_some h
  refine rd2 mixed (aOq _ _ _ h33) (aO1 _ _ _ h36) ?_
  refine an ?_
  rcases aA5 (decide ((List.length x35 : Int) < 5)) with b37 | b37
  · replace h := bI b37 h
    refine cf (sk (ab (an (rn ?_))))
    refine wQ ⟨mL1, by omega, v12, (IntKind.i64.wrap (v25 + 1)), r16, u16, ?_, ?_, ?_, ?_, ?_, ?_, ?_, ?_, ?_, ?_, ?_, ?_, ?_, ?_, h⟩
    all_goals simp +decide only [F, reduceIte, Nat.reduceAdd, Bool.not_true, Bool.not_false, EN, *, -h]
  replace h := bJ b37 h
  refine ct (sq ?_)
  obtain ⟨x38, h39, h⟩ := bind_some h
  refine rn1 h39 ?_
  refine an ?_
  refine cu (fun s => s.t 1 = vL M.bF.en p1 ∧ s.t 3 = vI p3 ∧ s.t 6 = vP 6 1 0 ∧ s.t 8 = vP 8 1 0 ∧ s.t 10 = vP 10 1 0 ∧ s.t 11 = vI x3 ∧ s.t 12 = vI v12 ∧ s.t 23 = vL M.bF.en p1 ∧ s.t 24 = vI (List.length p1 : Int) ∧ s.t 25 = vI v25 ∧ s.h 6 = (1, oB 3 [cI p2]) ∧ s.h 8 = (1, oB 46 [.nil]) ∧ s.h 10 = (1, oB 46 [.row 100016 (u16 + 1)]) ∧ s.h 100016 = ((u16 + 1), oW 183 3 M.cN.en (r16 ++ [(⟨x22.Id, p2, p3⟩ : M.cN)])) ∧ True) ?_
  rintro s40 ⟨f41, f42, f43, f44, f45, f46, f47, f48, f49, f50, f51, f52, f53, f54, _⟩
  refine rn ?_
  refine ab (an (rn ?_))
  refine wQ ⟨mL1, by omega, (IntKind.i64.wrap (v12 + 1)), (IntKind.i64.wrap (v25 + 1)), (r16 ++ [(⟨x22.Id, p2, p3⟩ : M.cN)]), (u16 + 1), ?_, ?_, ?_, ?_, ?_, ?_, ?_, ?_, ?_, ?_, ?_, ?_, ?_, ?_, h⟩
  all_goals simp +decide only [F, reduceIte, Nat.reduceAdd, Bool.not_true, Bool.not_false, EN, *, -h]
instance : bD 61 (type_of% @c61) := ⟨@c61⟩
theorem c15 (p0 p1 p2 r) (h : pE p0 p1 p2 = some r) : Sc 15 [aX (M.World.en p0), aI p1, aI p2] [(true, M.World.rs r.1), rI r.2] := by
 unfold pE at h
 exact sgo 37 [.cell 6 50, .tmp 7] Tryz.func15
instance : bD 15 (type_of% @c15) := ⟨@c15⟩
end Go.Proofs.YtecmnmaaopkdfaaGreat.gen
