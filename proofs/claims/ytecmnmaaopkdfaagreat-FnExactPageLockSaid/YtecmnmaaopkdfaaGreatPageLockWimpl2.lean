/-
  Helper text. No conditions.
-/
import Derived.Test.YtecmnmaaopkdfaaGreatPageLockTi
import Derived.Test.YtecmnmaaopkdfaaGreatPageLockWimpl0
import Derived.Test.YtecmnmaaopkdfaaGreatPageLockWimpl1
namespace Go.Proofs.YtecmnmaaopkdfaaGreat.gen
open Go Go.Sh
set_option linter.unusedVariables false
set_option linter.unusedSimpArgs false
set_option maxRecDepth 20000
set_option maxHeartbeats 4000000
theorem aTd (p0 r) (h : aAr p0 = some r) : Sc 109 [aX (M.Site.en p0)] [rB r] := by
 have i1 := inv fun m s => ∃ v8 : Int, (s.t 1 = vP 1 1 0 ∧ s.t 6 = vL enS p0.Files ∧ s.t 7 = vI (List.length p0.Files : Int) ∧ s.t 8 = vI v8 ∧ s.h 1 = (1, oX 75 (M.Site.en p0))) ∧ gZ p0 m v8 = some r
 have e1 := @gZ.eq_2
 unfold aAr at h
 exact sgo 45 [.tmp 2] Tryz.func109
instance : bC 109 (type_of% @aTd) := ⟨@aTd⟩
theorem aSA (p0 p1 r) (h : nU p0 p1 = some r) : Sc 103 [aL enS p0, aS p1] [rI r] := by
 have i1 := inv fun m s => ∃ v8 : Int, (s.t 0 = vL enS p0 ∧ s.t 1 = vS p1 ∧ s.t 7 = vI (List.length p0 : Int) ∧ s.t 8 = vI v8) ∧ eN p0 p1 m v8 = some r
 have e1 := @eN.eq_2
 unfold nU at h
 exact sgo 19 [.tmp 4] Tryz.func103
instance : bC 103 (type_of% @aSA) := ⟨@aSA⟩
theorem c37 (p0 r) (h : qQ p0 = some r) : Sc 37 [aS p0] [rI r] := by
 unfold qQ at h
 exact sgo 6 [.tmp 2] Tryz.func37
instance : bC 37 (type_of% @c37) := ⟨@c37⟩
theorem aQx (p0 r) (h : vW p0 = some r) : Sc 110 [aX (M.Server.en p0)] [rB r] := by
 have i1 := inv fun m s => ∃ v10 : Int, (s.t 1 = vP 1 1 0 ∧ s.t 8 = vL M.aJ.en p0.aJ ∧ s.t 9 = vI (List.length p0.aJ : Int) ∧ s.t 10 = vI v10 ∧ s.h 1 = (1, oX 145 (M.Server.en p0))) ∧ fP p0 m v10 = some r
 have e1 := @fP.eq_2
 have i2 := inv fun m s => ∃ v45 : Int, (s.t 1 = vP 1 1 0 ∧ s.t 43 = vL M.aW.en p0.Changes ∧ s.t 44 = vI (List.length p0.Changes : Int) ∧ s.t 45 = vI v45 ∧ s.h 1 = (1, oX 145 (M.Server.en p0))) ∧ gU p0 m v45 = some r
 have e2 := @gU.eq_2
 unfold vW at h
 exact sgo 68 [.tmp 2] Tryz.func110
instance : bC 110 (type_of% @aQx) := ⟨@aQx⟩
theorem c38 (p0 r) (h : yP p0 = some r) : Sc 38 [aX (M.World.en p0)] [rB r] := by
 have i1 := inv fun m s => ∃ v56 : Int, (s.t 1 = vP 1 1 0 ∧ s.t 54 = vL M.bG.en p0.Pages ∧ s.t 55 = vI (List.length p0.Pages : Int) ∧ s.t 56 = vI v56 ∧ s.h 1 = (1, oX 50 (M.World.en p0))) ∧ eM p0 m v56 = some r
 have e1 := @eM.eq_2
 have i2 := inv fun m s => ∃ v101 : Int, (s.t 1 = vP 1 1 0 ∧ s.t 99 = vL M.Site.en p0.Sites ∧ s.t 100 = vI (List.length p0.Sites : Int) ∧ s.t 101 = vI v101 ∧ s.h 1 = (1, oX 50 (M.World.en p0))) ∧ gF p0 m v101 = some r
 have e2 := @gF.eq_2
 unfold yP at h
 exact sgo 126 [.tmp 2] Tryz.func38
instance : bC 38 (type_of% @c38) := ⟨@c38⟩
theorem aP7 (p0 p1 r) (h : yZ p0 p1 = some r) : Sc 147 [aX (M.aF.en p0), aI p1] [rB r] := by
  unfold yZ at h
  simp only [EN]
  refine sgn 45 [.tmp 4] Tryz.func147 fun base wd => ?_
  refine sq (rn ?_)
  refine an (sq (sq ?_))
  obtain ⟨x1, h2, h⟩ := bind_some h
  apply aAz
  · simp +decide only [E, reduceIte, Nat.reduceAdd, Nat.reduceMul, Bool.not_true, Bool.not_false, ← List.map_take, ← List.map_drop, L, aNW, aNU, aKZ, M.bK.en, EN]
    refine ⟨by first | exact wT (f := M.bK.en) (n := 4) (fun _ => rfl) h2 | exact (wT (f := M.bK.en) (n := 4) (fun _ => rfl) h2).2 | exact (wT (f := M.bK.en) (n := 4) (fun _ => rfl) h2).2.2, ?_⟩
    try simp +decide only [E, reduceIte, Nat.reduceAdd, Nat.reduceMul, Bool.not_true, Bool.not_false, ← List.map_take, ← List.map_drop, L, aNW, aNU, aKZ, M.bK.en, EN]
    exact Is.mk _
  refine an (bk ?_)
  refine mG (fun m s => ∃ v12 : Int, s.t 1 = vI p1 ∧ s.t 2 = vP 2 1 0 ∧ s.t 10 = vL M.bK.en (List.take p1.toNat p0.Locks) ∧ s.t 11 = vI (List.length (List.take p1.toNat p0.Locks) : Int) ∧ s.t 12 = vI v12 ∧ s.h 2 = (1, oX 43 (M.aF.en p0)) ∧ gH p0 p1 m v12 = some r) fuel ?_ ?_
  · refine ⟨0, ?_, ?_, ?_, ?_, ?_, ?_, h⟩
    all_goals simp +decide only [F, reduceIte, Nat.reduceAdd, Bool.not_true, Bool.not_false, EN, *, -h]
  rintro mL1 s3 ⟨v12, f4, f5, f6, f7, f8, f9, h⟩
  rcases mL1 with _ | mL1
  · exact absurd h (by simp [gH])
  simp only [gH] at h
  refine sq (rn ?_)
  refine an (sq ?_)
  rcases aBC (decide (v12 < (List.length (List.take p1.toNat p0.Locks) : Int))) with b10 | b10
  · replace h := bI b10 h
    refine cf (xt (nI (pV (zX (an (sq (rn ?_)))))))
    refine an (rt ?_)
    cases h
    simp [Ret, TB, EN, *]
  replace h := bH b10 h
  refine ct (sk (an (sq (bk (sq ?_)))))
  obtain ⟨x11, h12, h⟩ := bind_some h
  obtain ⟨q13, q14, q15⟩ := aR h12
  refine rn ?_
  refine an (sq ?_)
  obtain ⟨x16, h17, h⟩ := bind_some h
  obtain ⟨q18, q19, q20⟩ := aR h17
  rcases aBC (x11.Name.toList == x16.Name.toList) with b21 | b21
  · replace h := bI b21 h
    refine rd mixed ?_
    refine an (cf (sk (ab (an (rn ?_)))))
    refine wV ⟨mL1, by omega, (IntKind.i64.wrap (v12 + 1)), ?_, ?_, ?_, ?_, ?_, ?_, h⟩
    all_goals simp +decide only [F, reduceIte, Nat.reduceAdd, Bool.not_true, Bool.not_false, EN, *, -h]
  replace h := bH b21 h
  rcases dG (!x11.Held) with b22 | b22
  · replace h := bH b22 h
    refine rd mixed ?_
    refine an (ct (sq (rn ?_)))
    refine an (rt ?_)
    cases h
    simp [Ret, TB, EN, *]
  replace h := bI b22 h
  rcases dG (!x11.Shared) with b23 | b23
  · replace h := bH b23 h
    refine rd mixed ?_
    refine an (ct (sq (rn ?_)))
    refine an (rt ?_)
    cases h
    simp [Ret, TB, EN, *]
  replace h := bI b23 h
  refine rd mixed ?_
  refine an ?_
  rcases dG (!x16.Shared) with b24 | b24
  · replace h := bH b24 h
    refine ct (sq (rn ?_))
    refine an (rt ?_)
    cases h
    simp [Ret, TB, EN, *]
  replace h := bI b24 h
  refine cf (sk (ab (an (rn ?_))))
  refine wV ⟨mL1, by omega, (IntKind.i64.wrap (v12 + 1)), ?_, ?_, ?_, ?_, ?_, ?_, h⟩
  all_goals simp +decide only [F, reduceIte, Nat.reduceAdd, Bool.not_true, Bool.not_false, EN, *, -h]
instance : bC 147 (type_of% @aP7) := ⟨@aP7⟩
theorem SW_cut {P : Program} {base N : Nat} {w0 : W0} {s : St} {c : Code} {Q : Exit → St → Prop} {J : St → Prop} (hj : J s) (h : ∀ s, J s → SW P base w0 N c s Q) : SW P base w0 N c s Q := h s hj
theorem c64 (p0 p1 p2 p3 r) (h : oJ p0 p1 p2 p3 = some r) : Sc 64 [aX (M.aF.en p0), aS p1, aI p2, aB p3] [(true, M.aF.rs r.1), rB r.2] := by
  unfold oJ at h
  simp only [List.length_append, List.length_cons, List.length_nil, Nat.zero_add, Nat.reduceAdd] at h
  simp only [EN]
  refine sgn 46 [.cell 8 43, .tmp 9] Tryz.func64 fun base wd => ?_
  refine sq ?_
  apply aAz
  · simp +decide only [E, reduceIte, Nat.reduceAdd, Nat.reduceMul, Bool.not_true, Bool.not_false, List.length_append, List.length_map, List.length_cons, List.length_nil, Nat.zero_add, L, aNU, EN]
    exact Is.mk _
  refine an (sq ?_)
  obtain ⟨x1, h2, h⟩ := bind_some h
  apply aAz
  · simp +decide only [E, reduceIte, Nat.reduceAdd, Nat.reduceMul, Bool.not_true, Bool.not_false, List.length_append, List.length_map, List.length_cons, List.length_nil, Nat.zero_add, L, aNU, EN]
    refine ⟨_, c99 _ _ h2, ?_⟩
    try simp +decide only [E, reduceIte, Nat.reduceAdd, Nat.reduceMul, Bool.not_true, Bool.not_false, List.length_append, List.length_map, List.length_cons, List.length_nil, Nat.zero_add, L, aNU, EN]
    exact Is.mk _
  refine an (sq ?_)
  obtain ⟨x3, h4, h⟩ := bind_some h
  apply aAz
  · simp +decide only [E, reduceIte, Nat.reduceAdd, Nat.reduceMul, Bool.not_true, Bool.not_false, List.length_append, List.length_map, List.length_cons, List.length_nil, Nat.zero_add, L, aNW, aNU, aKZ, M.bK.en, EN]
    refine ⟨by (have hb := oY h4); simp [M.bK.en, List.length_append, bF] at hb ⊢ <;> omega, ?_⟩
    try simp +decide only [E, reduceIte, Nat.reduceAdd, Nat.reduceMul, Bool.not_true, Bool.not_false, List.length_append, List.length_map, List.length_cons, List.length_nil, Nat.zero_add, L, aNW, aNU, aKZ, M.bK.en, EN]
    exact Is.mk _
  refine an (sq ?_)
  refine SW_cut (J := fun s => s.t 4 = .v false [.bp 4 1 0] ∧ s.t 8 = .v false [.bp 8 1 0] ∧ s.t 10 = .v false [.bp 10 1 0] ∧ s.h 4 = (1, .box 43 [.dat (.sl (List.map M.bK.en p0.Locks))]) ∧ s.h 8 = (1, .box 43 [.nil]) ∧ s.h 10 = (1, .box 43 [.row 100013 2]) ∧ s.h 100013 = (2, .row 186 4 (List.map M.bK.en (x1.Locks ++ [(⟨p1, p2, p3, false⟩ : M.bK)])) true) ∧ True) ?_ ?_
  · refine ⟨?_, ?_, ?_, ?_, ?_, ?_, ?_, trivial⟩ <;> (try simp +decide only [F, reduceIte, Nat.reduceAdd, Bool.not_true, Bool.not_false, M.bK.en, List.length_append, List.length_map, List.length_cons, List.length_nil, Nat.zero_add])
  rintro s5 ⟨f6, f7, f8, f9, f10, f11, f12, _⟩
  apply aAz
  · simp +decide only [E, reduceIte, Nat.reduceAdd, Nat.reduceMul, Bool.not_true, Bool.not_false, List.length_append, List.length_map, List.length_cons, List.length_nil, Nat.zero_add, L, aNW, aNU, EN, f6, f7, f8, f9, f10, f11, f12]
    exact Is.mk _
  refine an (sq ?_)
  obtain ⟨x13, h14, h⟩ := bind_some h
  obtain ⟨x15, h16, h⟩ := bind_some h
  obtain ⟨q17, q18, q19⟩ := aR h16
  try simp only [List.length_append, List.length_map, List.length_cons, List.length_nil, Nat.zero_add, Nat.reduceAdd] at q17 q18 q19
  apply aHt mixed
  · simp +decide only [E, reduceIte, Nat.reduceAdd, Nat.reduceMul, Bool.not_true, Bool.not_false, List.length_append, List.length_map, List.length_cons, List.length_nil, Nat.zero_add, L, ti4, aNW, aNU, aKZ, M.bK.en, EN, f6, f7, f8, f9, f10, f11, f12, q17, q18, q19]
    have hc := aP7 _ _ _ h14
    try simp only [List.length_append, List.length_map, List.length_cons, List.length_nil, Nat.zero_add, Nat.reduceAdd] at hc
    try simp only [List.map_append, List.map_cons, List.map_nil, M.bK.en] at hc
    refine ⟨_, hc, ?_⟩
    try simp +decide only [E, reduceIte, Nat.reduceAdd, Nat.reduceMul, Bool.not_true, Bool.not_false, List.length_append, List.length_map, List.length_cons, List.length_nil, Nat.zero_add, L, ti4, aNW, aNU, aKZ, M.bK.en, EN, f6, f7, f8, f9, f10, f11, f12, q17, q18, q19]
    exact ⟨.mk (by decide +kernel), Is.mk _⟩
  refine an (sq (sq ?_))
  refine SW_cut (J := fun s => s.t 4 = .v false [.bp 4 1 0] ∧ s.t 8 = .v false [.bp 8 1 0] ∧ s.t 10 = .v false [.bp 10 1 0] ∧ s.h 4 = (1, .box 43 [.dat (.sl (List.map M.bK.en p0.Locks))]) ∧ s.h 8 = (1, .box 43 [.nil]) ∧ s.h 10 = (1, .box 43 [.row 100013 2]) ∧ s.h 100013 = (2, .row 186 4 (List.map M.bK.en (List.set (x1.Locks ++ [(⟨p1, p2, p3, false⟩ : M.bK)]) (IntKind.i64.wrap ((List.length (x1.Locks ++ [(⟨p1, p2, p3, false⟩ : M.bK)]) : Int) - 1)).toNat (⟨x15.Name, x15.bG, x15.Shared, x13⟩ : M.bK))) true) ∧ True) ?_ ?_
  · refine ⟨?_, ?_, ?_, ?_, ?_, ?_, ?_, trivial⟩ <;> (try simp +decide only [F, reduceIte, Nat.reduceAdd, Bool.not_true, Bool.not_false, M.bK.en, List.length_append, List.length_map, List.length_cons, List.length_nil, Nat.zero_add, f6, f7, f8, f9, f10, f11, f12, q17, q18, q19])
  rintro s20 ⟨f21, f22, f23, f24, f25, f26, f27, _⟩
  obtain ⟨x28, h29, h⟩ := bind_some h
  rcases dG (!x28) with b30 | b30
  · replace h := bH b30 h
    apply aAz
    · simp +decide only [E, reduceIte, Nat.reduceAdd, Nat.reduceMul, Bool.not_true, Bool.not_false, List.length_append, List.length_map, List.length_cons, List.length_nil, Nat.zero_add, L, aNU, EN, q17, q18, q19, f21, f22, f23, f24, f25, f26, f27, b30]
      refine ⟨_, aPu _ _ h29, ?_⟩
      try simp +decide only [E, reduceIte, Nat.reduceAdd, Nat.reduceMul, Bool.not_true, Bool.not_false, List.length_append, List.length_map, List.length_cons, List.length_nil, Nat.zero_add, L, aNU, EN, q17, q18, q19, f21, f22, f23, f24, f25, f26, f27, b30]
      exact Is.mk _
    refine an ?_
    refine aNm (by simp +decide only [F, reduceIte, Nat.reduceAdd, Bool.not_true, Bool.not_false, List.length_append, List.length_map, List.length_cons, List.length_nil, Nat.zero_add, q17, q18, q19, f21, f22, f23, f24, f25, f26, f27, b30]) ?_
    refine sq ?_
    obtain ⟨x31, h32, h⟩ := bind_some h
    apply aAz
    · simp +decide only [E, reduceIte, Nat.reduceAdd, Nat.reduceMul, Bool.not_true, Bool.not_false, List.length_append, List.length_map, List.length_cons, List.length_nil, Nat.zero_add, L, aNU, EN, q17, q18, q19, f21, f22, f23, f24, f25, f26, f27, b30]
      refine ⟨_, c99 _ _ h32, ?_⟩
      try simp +decide only [E, reduceIte, Nat.reduceAdd, Nat.reduceMul, Bool.not_true, Bool.not_false, List.length_append, List.length_map, List.length_cons, List.length_nil, Nat.zero_add, L, aNU, EN, q17, q18, q19, f21, f22, f23, f24, f25, f26, f27, b30]
      exact Is.mk _
    refine an (rt ?_)
    cases h
    simp [Ret, aNU, M.bK.en, q17, q18, q19, f21, f22, f23, f24, f25, f26, f27, b30]
  replace h := bI b30 h
  obtain ⟨x33, h34, h⟩ := bind_some h
  apply aAz
  · simp +decide only [E, reduceIte, Nat.reduceAdd, Nat.reduceMul, Bool.not_true, Bool.not_false, List.length_append, List.length_map, List.length_cons, List.length_nil, Nat.zero_add, L, aNU, EN, q17, q18, q19, f21, f22, f23, f24, f25, f26, f27, b30]
    refine ⟨_, aPu _ _ h29, ?_⟩
    try simp +decide only [E, reduceIte, Nat.reduceAdd, Nat.reduceMul, Bool.not_true, Bool.not_false, List.length_append, List.length_map, List.length_cons, List.length_nil, Nat.zero_add, L, aNU, EN, q17, q18, q19, f21, f22, f23, f24, f25, f26, f27, b30]
    refine ⟨_, aPu _ _ h34, ?_⟩
    try simp +decide only [E, reduceIte, Nat.reduceAdd, Nat.reduceMul, Bool.not_true, Bool.not_false, List.length_append, List.length_map, List.length_cons, List.length_nil, Nat.zero_add, L, aNU, EN, q17, q18, q19, f21, f22, f23, f24, f25, f26, f27, b30]
    exact Is.mk _
  refine an ?_
  rcases aBC (!x33) with b35 | b35
  · replace h := bI b35 h
    refine aNg (by simp +decide only [F, reduceIte, Nat.reduceAdd, Bool.not_true, Bool.not_false, List.length_append, List.length_map, List.length_cons, List.length_nil, Nat.zero_add, q17, q18, q19, f21, f22, f23, f24, f25, f26, f27, b30, b35]) ?_
    refine sk (an (sq ?_))
    apply aAz
    · simp +decide only [E, reduceIte, Nat.reduceAdd, Nat.reduceMul, Bool.not_true, Bool.not_false, List.length_append, List.length_map, List.length_cons, List.length_nil, Nat.zero_add, L, aNU, EN, q17, q18, q19, f21, f22, f23, f24, f25, f26, f27, b30, b35]
      exact Is.mk _
    refine an (rt ?_)
    cases h
    simp [Ret, aNU, M.bK.en, q17, q18, q19, f21, f22, f23, f24, f25, f26, f27, b30, b35]
  replace h := bH b35 h
  refine aNm (by simp +decide only [F, reduceIte, Nat.reduceAdd, Bool.not_true, Bool.not_false, List.length_append, List.length_map, List.length_cons, List.length_nil, Nat.zero_add, q17, q18, q19, f21, f22, f23, f24, f25, f26, f27, b30, b35]) ?_
  refine sq ?_
  obtain ⟨x36, h37, h⟩ := bind_some h
  apply aAz
  · simp +decide only [E, reduceIte, Nat.reduceAdd, Nat.reduceMul, Bool.not_true, Bool.not_false, List.length_append, List.length_map, List.length_cons, List.length_nil, Nat.zero_add, L, aNU, EN, q17, q18, q19, f21, f22, f23, f24, f25, f26, f27, b30, b35]
    refine ⟨_, c99 _ _ h37, ?_⟩
    try simp +decide only [E, reduceIte, Nat.reduceAdd, Nat.reduceMul, Bool.not_true, Bool.not_false, List.length_append, List.length_map, List.length_cons, List.length_nil, Nat.zero_add, L, aNU, EN, q17, q18, q19, f21, f22, f23, f24, f25, f26, f27, b30, b35]
    exact Is.mk _
  refine an (rt ?_)
  cases h
  simp [Ret, aNU, M.bK.en, q17, q18, q19, f21, f22, f23, f24, f25, f26, f27, b30, b35]
instance : bC 64 (type_of% @c64) := ⟨@c64⟩
theorem aPQ (p0 c0 c1 r) (h : nQ p0 c0 c1 = some r) : Sc 149 [aX (M.bK.en p0), (false, [.ptr [.str c0]]), (false, [.ptr [.int .i64 c1]])] [rB r] := by
 unfold nQ at h
 exact sgo 19 [.tmp 4] Tryz.func149
instance : bC 149 (type_of% @aPQ) := ⟨@aPQ⟩
theorem aPE (p0 : List M.bK) (p1 : M.bK → Option Bool) (f1_ : FuncId) (k1_ : List D) (hp1 : ∀ z0 r, p1 z0 = some r → oR Tryz.prog f1_ ((true, M.bK.en z0) ::  k1_.map fun c => (false, [c])) [(false, [.ro (.bool r)])]) (r : Int) (h : iL p0 p1 = some r) : Sc 212 [(false, [.sl (List.map M.bK.en p0)]), (false, [.fn f1_ k1_])] [rI r] := by
  unfold iL at h
  simp only [EN]
  refine sgn 19 [.tmp 4] Tryz.func212 fun base wd => ?_
  refine sq (rn ?_)
  refine an (sq (sq (rn ?_)))
  refine an (bk ?_)
  refine mG (fun m s => ∃ v8 : Int, s.t 0 = vL M.bK.en p0 ∧ s.t 1 = .v false [.dat (.fn f1_ k1_)] ∧ s.t 7 = vI (List.length p0 : Int) ∧ s.t 8 = vI v8 ∧ bZ p0 p1 m v8 = some r) fuel ?_ ?_
  · refine ⟨0, ?_, ?_, ?_, ?_, h⟩
    all_goals simp +decide only [F, reduceIte, Nat.reduceAdd, Bool.not_true, Bool.not_false, EN, *, -h]
  rintro mL1 s1 ⟨v8, f2, f3, f4, f5, h⟩
  rcases mL1 with _ | mL1
  · exact absurd h (by simp [bZ])
  simp only [bZ] at h
  refine sq (rn ?_)
  refine an (sq ?_)
  rcases aBC (decide (v8 < (List.length p0 : Int))) with b6 | b6
  · replace h := bI b6 h
    refine cf (xt (nI (pV (zX (an (sq (rn ?_)))))))
    refine an (rt ?_)
    cases h
    simp [Ret, TB, EN, *]
  replace h := bH b6 h
  refine ct (sk (an (sq (bk (sq (rn ?_))))))
  refine an (sq ?_)
  obtain ⟨x7, h8, h⟩ := bind_some h
  obtain ⟨q9, q10, q11⟩ := aR h8
  obtain ⟨x12, h13, h⟩ := bind_some h
  refine rn1 (hp1 x7 x12 h13) ?_
  refine an ?_
  rcases dG x12 with b14 | b14
  · replace h := bH b14 h
    refine ct (sq (rn ?_))
    refine an (rt ?_)
    cases h
    simp [Ret, TB, EN, *]
  replace h := bI b14 h
  refine cf (sk (ab (an (rn ?_))))
  refine wV ⟨mL1, by omega, (IntKind.i64.wrap (v8 + 1)), ?_, ?_, ?_, ?_, h⟩
  all_goals simp +decide only [F, reduceIte, Nat.reduceAdd, Bool.not_true, Bool.not_false, EN, *, -h]
instance : bC 212 (type_of% @aPE) := ⟨@aPE⟩
theorem aPL (p0 : List M.bK) (p1 : M.bK → Option Bool) (f1_ : FuncId) (k1_ : List D) (hp1 : ∀ z0 r, p1 z0 = some r → oR Tryz.prog f1_ ((true, M.bK.en z0) ::  k1_.map fun c => (false, [c])) [(false, [.ro (.bool r)])]) (r : Bool) (h : gM p0 p1 = some r) : Sc 148 [(false, [.sl (List.map M.bK.en p0)]), (false, [.fn f1_ k1_])] [rB r] := by
  unfold gM at h
  simp only [EN]
  refine sgn 9 [.tmp 4] Tryz.func148 fun base wd => ?_
  refine sq (rn ?_)
  refine an (sq ?_)
  obtain ⟨x1, h2, h⟩ := bind_some h
  refine rn1 (aPE p0 p1 f1_ k1_ hp1 x1 h2) ?_
  refine an (rt ?_)
  cases h
  simp [Ret, TB, EN, *]
instance : bC 148 (type_of% @aPL) := ⟨@aPL⟩
theorem c65 (p0 p1 p2 r) (h : tE p0 p1 p2 = some r) : Sc 65 [aX (M.aF.en p0), aS p1, aI p2] [rB r] := by
  unfold tE at h
  simp only [EN]
  refine sgn 11 [.tmp 6] Tryz.func65 fun base wd => ?_
  refine sq (rn ?_)
  refine an (sq ?_)
  obtain ⟨x1, h2, h⟩ := bind_some h
  refine rn1 (aPL p0.Locks (fun z0 => nQ z0 p1 p2) 149 [.ptr [.str p1], .ptr [.int .i64 p2]] (fun z0 r hr => aPQ z0 p1 p2 r hr) x1 h2) ?_
  refine an (rt ?_)
  cases h
  simp [Ret, TB, EN, *]
instance : bC 65 (type_of% @c65) := ⟨@c65⟩
theorem c17 (p0 p1 p2 p3 r) (h : pY p0 p1 p2 p3 = some r) : Sc 17 [aX (M.World.en p0), aI p1, aS p2, aB p3] [(true, M.World.rs r.1), rB r.2] := by
 unfold pY at h
 exact sgo 64 [.cell 8 50, .tmp 9] Tryz.func17
instance : bC 17 (type_of% @c17) := ⟨@c17⟩
end Go.Proofs.YtecmnmaaopkdfaaGreat.gen
