/-
  Helper text. No conditions.
-/
import Derived.Test.YtbpbocchokbggaaGreatUpdatesWimpl0
import Derived.Test.YtbpbocchokbggaaGreatUpdatesWimpl1
set_option linter.all false
namespace Go.Proofs.YtbpbocchokbggaaGreat.gen
open Go Go.Sh
set_option maxRecDepth 20000
set_option maxHeartbeats 4000000
instance aCC:bE 297 (∀p0 r (h:gI p0=some r),Sc 297 [aX (M.aI8.en p0)] [(true,M.aI8.rs r)]):=⟨λp0 r h=>by unfold gI at h;exact sgo 8 [.cell 2 189] Tryz.func297⟩
instance:bE 445 (∀p0 r (h:zS p0=some r),Sc 445 [aX (M.aJN.en p0)] [(true,M.aJN.rs r)]):=⟨λp0 r h=>by unfold zS at h;exact sgo 9 [.cell 2 260] Tryz.func445⟩
instance:bE 456 (∀p0 r (h:Bj p0=some r),Sc 456 [aX (M.aJR.en p0)] [(true,M.aJR.rs r)]):=⟨λp0 r h=>by unfold Bj at h;exact sgo 8 [.cell 2 122] Tryz.func456⟩
instance:bE 131 (∀p0 r (h:zZ p0=some r),Sc 131 [aX (M.bG.en p0)] [(true,M.bG.rs r)]):=⟨λp0 r h=>by unfold zZ at h;exact sgo 13 [.cell 2 67] Tryz.func131⟩
instance:bE 189 (∀p0 p1 p2 r (h:nD p0 p1 p2=some r),Sc 189 [aX (M.aA.en p0),aS p1,aS p2] [rI r]):=⟨λp0 p1 p2 r h=>by
 unfold nD at h
 simp only[EN]
 refine sgn 11 [.tmp 6] Tryz.func189 λbase wd => ?_
 refine sq (rn ?_)
 refine an (sq ?_)
 obtain⟨x1,h2,h⟩:=bind_some h
 refine rn1 (aH5 p0.aI4 (λz0=>vQ z0 p1 p2) 328 [.ptr [.str p1],.ptr [.str p2]] (λz0 r hr=>aIM z0 p1 p2 r hr) x1 h2) ?_
 refine an (rt ?_)
 cases h
 simp[Ret,TB,EN, *]⟩
instance:bE 95 (∀p0 r (h:pZ p0=some r),Sc 95 [aS p0] [rI r]):=⟨λp0 r h=>by unfold pZ at h;exact sgo 6 [.tmp 2] Tryz.func95⟩
instance:bE 454 (∀p0 p1 p2 r (h:Bq p0 p1 p2=some r),Sc 454 [aS p0,aI p1,aB p2] [rB r]):=⟨λp0 p1 p2 r h=>by
 have i1:=inv λm s=>∃v7:Int,(s.t 0=vS p0/\s.t 1=vI p1/\s.t 2=vB p2/\s.t 7=vI v7)/\kC p0 p1 p2 m v7=some r
 have e1:=@kC.eq_2
 unfold Bq at h
 exact sgo 38 [.tmp 6] Tryz.func454⟩
instance aCf:bE 296 (∀p0 p1 p2 r (h:nW p0 p1 p2=some r),Sc 296 [aX (M.aI5.en p0),aS p1,aS p2] [rI r]):=⟨λp0 p1 p2 r h=>by
 unfold nW at h
 simp only[EN]
 refine sgn 11 [.tmp 6] Tryz.func296 λbase wd => ?_
 refine sq (rn ?_)
 refine an (sq ?_)
 obtain⟨x1,h2,h⟩:=bind_some h
 refine rn1 (aIi p0.aJB (λz0=>wV z0 p1 p2) 422 [.ptr [.str p1],.ptr [.str p2]] (λz0 r hr=>aIG z0 p1 p2 r hr) x1 h2) ?_
 refine an (rt ?_)
 cases h
 simp[Ret,TB,EN, *]⟩
instance:bE 477 (∀p0 r (h:uX p0=some r),Sc 477 [aX (M.aI8.en p0)] [rB r]):=⟨λp0 r h=>by unfold uX at h;exact sgo 22 [.tmp 2] Tryz.func477⟩
instance:bE 455 (∀p0 r (h:xR p0=some r),Sc 455 [aX (M.Key.en p0)] [rB r]):=⟨λp0 r h=>by unfold xR at h;exact sgo 39 [.tmp 2] Tryz.func455⟩
instance:bE 559 (∀p0 p1 r (h:Bs p0 p1=some r),Sc 559 [aS p0,aS p1] [rI r]):=⟨λp0 p1 r h=>by unfold Bs at h;exact sgo 8 [.tmp 4] Tryz.func559⟩
instance:bE 194 (∀p0 p1 r (h:Aq p0 p1=some r),Sc 194 [aX (M.aI2.en p0),aS p1] [rI r]):=⟨λp0 p1 r h=>by
 unfold Aq at h
 simp only[EN]
 refine sgn 9 [.tmp 4] Tryz.func194 λbase wd => ?_
 refine sq (rn ?_)
 refine an (sq ?_)
 obtain⟨x1,h2,h⟩:=bind_some h
 refine rn1 (aIj p0.aJF (λz0=>xS z0 p1) 338 [.ptr [.str p1]] (λz0 r hr=>aIq z0 p1 r hr) x1 h2) ?_
 refine an (rt ?_)
 cases h
 simp[Ret,TB,EN, *]⟩
instance:bE 449 (∀p0 p1 r (h:kS p0 p1=some r),Sc 449 [aL M.aN.en p0,aX (M.aN.en p1)] [rB r]):=⟨λp0 p1 r h=>by unfold kS at h;exact sgo 9 [.tmp 4] Tryz.func449⟩
instance:bE 197 (∀p0 p1 r (h:Ds p0 p1=some r),Sc 197 [aX (M.aE.en p0),aS p1] [rI r]):=⟨λp0 p1 r h=>by
 unfold Ds at h
 simp only[EN]
 refine sgn 9 [.tmp 4] Tryz.func197 λbase wd => ?_
 refine sq (rn ?_)
 refine an (sq ?_)
 obtain⟨x1,h2,h⟩:=bind_some h
 refine rn1 (aIO p0.aI9 (λz0=>Al z0 p1) 342 [.ptr [.str p1]] (λz0 r hr=>aIF z0 p1 r hr) x1 h2) ?_
 refine an (rt ?_)
 cases h
 simp[Ret,TB,EN, *]⟩
instance:bE 478 (∀p0 r (h:zQ p0=some r),Sc 478 [aX (M.aC.en p0)] [rI r]):=⟨λp0 r h=>by
 have i1:=inv λm s=>∃v3:Int,∃v11:Int,(s.t 3=vI v3/\s.t 9=vL M.aI5.en p0.aI1/\s.t 10=vI (List.length p0.aI1:Int)/\s.t 11=vI v11)/\fE p0 m v3 v11=some r
 have e1:=@fE.eq_2
 have i2:=λ(v11:Int) (x7:M.aI5) (af:Int->Int->Option Int)=>inv λm s=>∃ae:Int,∃aa:Int,(s.t 3=vI ae/\s.t 9=vL M.aI5.en p0.aI1/\s.t 10=vI (List.length p0.aI1:Int)/\s.t 11=vI v11/\s.t 16=vL M.aJE.en x7.aJB/\s.t 17=vI (List.length x7.aJB:Int)/\s.t 18=vI aa)/\kV x7 af m ae aa=some r
 have e2:=@kV.eq_2
 unfold zQ at h
 exact sgo 34 [.tmp 2] Tryz.func478⟩
instance:bE 348 (∀p0 p1 r (h:kU p0 p1=some r),Sc 348 [aL enB p0,aI p1] [rW 5 1 enB r]):=⟨λp0 p1 r h=>by
 have i1:=inv λm s=>∃v1:Int,∃r7:List Int,∃u7:Nat,(s.t 1=vI v1/\s.t 5=vR 100007 u7/\s.h 100007=(u7,oW 5 1 enB r7))/\gK m v1 r7=some r
 have e1:=@gK.eq_2
 unfold kU at h
 exact sgo 28 [.tmp 4] Tryz.func348⟩
instance:bE 482 (∀p0 p1 r (h:sP p0 p1=some r),Sc 482 [aL enS p0,aS p1] [rB r]):=⟨λp0 p1 r h=>by unfold sP at h;exact sgo 9 [.tmp 4] Tryz.func482⟩
instance:bE 525 (∀p0 p1 r (h:FC p0 p1=some r),Sc 525 [aI p0,aI p1] [rI r]):=⟨λp0 p1 r h=>by unfold FC at h;exact sgo 18 [.tmp 4] Tryz.func525⟩
instance aCR:bE 284 (∀p0 p1 r (h:tQ p0 p1=some r),Sc 284 [aX (M.aC.en p0),aI p1] [rI r]):=⟨λp0 p1 r h=>by
 unfold tQ at h
 simp only[EN]
 refine sgn 9 [.tmp 4] Tryz.func284 λbase wd => ?_
 refine sq (rn ?_)
 refine an (sq ?_)
 obtain⟨x1,h2,h⟩:=bind_some h
 refine rn1 (aH6 p0.aI1 (λz0=>xU z0 p1) 415 [.ptr [.int .i64 p1]] (λz0 r hr=>aIQ z0 p1 r hr) x1 h2) ?_
 refine an (rt ?_)
 cases h
 simp[Ret,TB,EN, *]⟩
instance:bE 334 (∀p0 p1 r (h:uW p0 p1=some r),Sc 334 [aL enB p0,aL enB p1] [rB r]):=⟨λp0 p1 r h=>by unfold uW at h;exact sgo 8 [.tmp 4] Tryz.func334⟩
instance:bE 495 (∀p0 p1 r (h:vU p0 p1=some r),Sc 495 [aX (M.aE.en p0),aX (M.aE.en p1)] [rB r]):=⟨λp0 p1 r h=>by unfold vU at h;exact sgo 10 [.tmp 4] Tryz.func495⟩
instance:bE 569 (∀p0 p1 r (h:uI p0 p1=some r),Sc 569 [aX (M.aK.en p0),aX (M.aK.en p1)] [rB r]):=⟨λp0 p1 r h=>by unfold uI at h;exact sgo 24 [.tmp 4] Tryz.func569⟩
instance:bE 262 (∀p0 p1 r (h:tW p0 p1=some r),Sc 262 [aX (M.aJH.en p0),aX (M.aJH.en p1)] [rB r]):=⟨λp0 p1 r h=>by unfold tW at h;exact sgo 45 [.tmp 4] Tryz.func262⟩
theorem aDo(p0 p1 r)(h:rA p0 p1=some r):Sc 117 [aX (M.aI7.en p0),aX (M.aI7.en p1)] [rB r]:=by unfold rA at h;exact sgo 31 [.tmp 4] Tryz.func117
instance:bE 420 (∀p0 p1 r (h:sJ p0 p1=some r),Sc 420 [aL enI p0,aI p1] [rB r]):=⟨λp0 p1 r h=>by unfold sJ at h;exact sgo 9 [.tmp 4] Tryz.func420⟩
