/-
  Helper text. No conditions.
-/
import Derived.Test.YtjlnkcoeghonfaaGreatRunningPagesWimpl0
import Derived.Test.YtjlnkcoeghonfaaGreatRunningPagesWimpl1
import Derived.Test.YtjlnkcoeghonfaaGreatRunningPagesWimpl2
set_option linter.all false
namespace Go.Proofs.YtjlnkcoeghonfaaGreat.gen
open Go Go.Sh Tryz
set_option maxRecDepth 20000
set_option maxHeartbeats 4000000
instance:bK 405 (∀p0 r (h:C4 p0=some r),Sc 405 [aX (M.aLs.en p0)] [(true,M.aLs.rs r)]):=⟨λp0 r h=>by unfold C4 at h;exact sgo 8 [.cell 2 80] func405⟩
instance:bK 373 (∀p0 p1 p2 r (h:De p0 p1 p2=some r),Sc 373 [aS p0,aI p1,aB p2] [rB r]):=⟨λp0 p1 p2 r h=>by
 have i1:=inv λm s=>∃v7:Int,(s.t 0=vS p0/\s.t 1=vI p1/\s.t 2=vB p2/\s.t 7=vI v7)/\lP p0 p1 p2 m v7=some r
 have e1:=@lP.eq_2
 unfold De at h
 exact sgo 38 [.tmp 6] func373⟩
instance:bK 377 (∀p0 p1 p2 r (h:uA p0 p1 p2=some r),Sc 377 [aX (M.aLi.en p0),aS p1,aS p2] [rI r]):=⟨λp0 p1 p2 r h=>by
 unfold uA at h
 simp only[EN]
 refine sgn 11 [.tmp 6] func377 λbase wd=> ?_
 refine sq (rn ?_)
 refine an (sq ?_)
 obtain⟨x1,h2,h⟩:=aA h
 refine rn1 (aKg p0.aLg (λz0=>Aj z0 p1 p2) 481 [.ptr [.str p1],.ptr [.str p2]] (λz0 r hr=>aKt z0 p1 p2 r hr) x1 h2) ?_
 exact an (rt zR)⟩
instance:bK 477 (∀p0 p1 r (h:Dg p0 p1=some r),Sc 477 [aS p0,aS p1] [rI r]):=⟨λp0 p1 r h=>by unfold Dg at h;exact sgo 8 [.tmp 4] func477⟩
instance aEz:bK 270 (∀p0 p1 r (h:rT p0 p1=some r),Sc 270 [aX (M.aLS.en p0),aS p1] [rI r]):=⟨λp0 p1 r h=>by
 unfold rT at h
 simp only[EN]
 refine sgn 9 [.tmp 4] func270 λbase wd=> ?_
 refine sq (rn ?_)
 refine an (sq ?_)
 obtain⟨x1,h2,h⟩:=aA h
 refine rn1 (aKe p0.aLc (λz0=>AO z0 p1) 390 [.ptr [.str p1]] (λz0 r hr=>aLA z0 p1 r hr) x1 h2) ?_
 exact an (rt zR)⟩
instance:bK 272 (∀p0 p1 r (h:CD p0 p1=some r),Sc 272 [aX (M.aF.en p0),aS p1] [rI r]):=⟨λp0 p1 r h=>by
 unfold CD at h
 simp only[EN]
 refine sgn 9 [.tmp 4] func272 λbase wd=> ?_
 refine sq (rn ?_)
 refine an (sq ?_)
 obtain⟨x1,h2,h⟩:=aA h
 refine rn1 (aLF p0.aLY (λz0=>zZ z0 p1) 394 [.ptr [.str p1]] (λz0 r hr=>aKS z0 p1 r hr) x1 h2) ?_
 exact an (rt zR)⟩
instance:bK 472 (∀p0 r (h:BL p0=some r),Sc 472 [aX (M.aJ.en p0)] [rI r]):=⟨λp0 r h=>by
 have i1:=inv λm s=>∃v3:Int,∃v11:Int,(s.t 3=vI v3/\s.t 9=vL M.aLi.en p0.aLW/\s.t 10=vI (List.length p0.aLW:Int)/\s.t 11=vI v11)/\gF p0 m v3 v11=some r
 have e1:=@gF.eq_2
 have i2:=λ(v11:Int) (x7:M.aLi) (af:Int->Int->Option Int)=>inv λm s=>∃ae:Int,∃aa:Int,(s.t 3=vI ae/\s.t 9=vL M.aLi.en p0.aLW/\s.t 10=vI (List.length p0.aLW:Int)/\s.t 11=vI v11/\s.t 16=vL M.aLr.en x7.aLg/\s.t 17=vI (List.length x7.aLg:Int)/\s.t 18=vI aa)/\mH x7 af m ae aa=some r
 have e2:=@mH.eq_2
 unfold BL at h
 exact sgo 34 [.tmp 2] func472⟩
instance:bK 147 (∀p0 r (h:sU p0=some r),Sc 147 [aS p0] [rI r]):=⟨λp0 r h=>by unfold sU at h;exact sgo 6 [.tmp 2] func147⟩
instance:bK 482 (∀p0 p1 r (h:vE p0 p1=some r),Sc 482 [aL enS p0,aS p1] [rB r]):=⟨λp0 p1 r h=>by unfold vE at h;exact sgo 9 [.tmp 4] func482⟩
instance aDG:bK 382 (∀p0 p1 p2 r (h:eY p0 p1 p2=some r),Sc 382 [aL enB p0,aI p1,aI p2] [rW 5 1 enB r.1,rI r.2.1,rB r.2.2]):=⟨λp0 p1 p2 r h=>by unfold eY at h;exact sgo 45 [.tmp 6,.tmp 7,.tmp 8] func382⟩
instance aFk:bK 387 (∀p0 p1 r (h:iW p0 p1=some r),Sc 387 [aL enB p0,aL enB p1] [rB r]):=⟨λp0 p1 r h=>by unfold iW at h;exact sgo 8 [.tmp 4] func387⟩
instance:bK 438 (∀p0 p1 r (h:zE p0 p1=some r),Sc 438 [aX (M.aF.en p0),aX (M.aF.en p1)] [rB r]):=⟨λp0 p1 r h=>by unfold zE at h;exact sgo 10 [.tmp 4] func438⟩
instance:bK 199 (∀p0 p1 r (h:xL p0 p1=some r),Sc 199 [aX (M.aLX.en p0),aX (M.aLX.en p1)] [rB r]):=⟨λp0 p1 r h=>by unfold xL at h;exact sgo 45 [.tmp 4] func199⟩
theorem c84(p0 p1 r)(h:sV p0 p1=some r):Sc 84 [aX (M.aLa.en p0),aX (M.aLa.en p1)] [rB r]:=by unfold sV at h;exact sgo 31 [.tmp 4] func84
