/-
  Helper text. No conditions.
-/
import Derived.Test.YtjlnkcoeghonfaaGreatRunningPagesWimpl0
import Derived.Test.YtjlnkcoeghonfaaGreatRunningPagesWimpl1
import Derived.Test.YtjlnkcoeghonfaaGreatRunningPagesWimpl2
set_option linter.all false
namespace Go.Proofs.YtjlnkcoeghonfaaGreat.gen
open Go Go.Sh Tryz
set_option maxRecDepth 20000
set_option maxHeartbeats 4000000
instance:bK 378 (∀p0 r (h:nX p0=some r),Sc 378 [aX (M.aLb.en p0)] [(true,M.aLb.rs r)]):=⟨λp0 r h=>by unfold nX at h;exact sgo 8 [.cell 2 107] func378⟩
instance:bK 368 (∀p0 r (h:BO p0=some r),Sc 368 [aX (M.aLo.en p0)] [(true,M.aLo.rs r)]):=⟨λp0 r h=>by unfold BO at h;exact sgo 9 [.cell 2 320] func368⟩
instance:bK 48 (∀p0 r (h:lJ p0=some r),Sc 48 [aX (M.bO.en p0)] [(true,M.bO.rs r)]):=⟨λp0 r h=>by unfold lJ at h;exact sgo 13 [.cell 2 91] func48⟩
instance:bK 46 (∀p0 p1 r (h:AE p0 p1=some r),Sc 46 [aX (M.aD.en p0),aI p1] [rI r]):=⟨λp0 p1 r h=>by
 unfold AE at h
 simp only[EN]
 refine sgn 9 [.tmp 4] func46 λbase wd=> ?_
 refine sq (rn ?_)
 refine an (sq ?_)
 obtain⟨x1,h2,h⟩:=aA h
 refine rn1 (aLJ p0.aLf (λz0=>A3 z0 p1) 140 [.ptr [.int .i64 p1]] (λz0 r hr=>aKO z0 p1 r hr) x1 h2) ?_
 exact an (rt zR)⟩
instance:bK 469 (∀p0 r (h:yH p0=some r),Sc 469 [aX (M.aLb.en p0)] [rB r]):=⟨λp0 r h=>by unfold yH at h;exact sgo 22 [.tmp 2] func469⟩
instance:bK 374 (∀p0 r (h:kX p0=some r),Sc 374 [aX (M.bD.en p0)] [rB r]):=⟨λp0 r h=>by unfold kX at h;exact sgo 39 [.tmp 2] func374⟩
instance:bK 470 (∀p0 p1 r (h:mE p0 p1=some r),Sc 470 [aL M.aU.en p0,aX (M.aU.en p1)] [rB r]):=⟨λp0 p1 r h=>by unfold mE at h;exact sgo 9 [.tmp 4] func470⟩
instance aEV:bK 399 (∀p0 p1 r (h:cQ p0 p1=some r),Sc 399 [aL enB p0,aI p1] [rW 5 1 enB r]):=⟨λp0 p1 r h=>by
 have i1:=inv λm s=>∃v1:Int,∃r7:List Int,∃u7:Nat,(s.t 1=vI v1/\s.t 5=vR 100007 u7/\s.h 100007=(u7,oW 5 1 enB r7))/\dH m v1 r7=some r
 have e1:=@dH.eq_2
 unfold cQ at h
 exact sgo 28 [.tmp 4] func399⟩
instance:bK 145 (∀p0 p1 p2 r (h:oL p0 p1 p2=some r),Sc 145 [aX (M.aC.en p0),aS p1,aS p2] [rI r]):=⟨λp0 p1 p2 r h=>by
 unfold oL at h
 simp only[EN]
 refine sgn 11 [.tmp 6] func145 λbase wd=> ?_
 refine sq (rn ?_)
 refine an (sq ?_)
 obtain⟨x1,h2,h⟩:=aA h
 refine rn1 (aK3 p0.Buckets (λz0=>zA z0 p1 p2) 260 [.ptr [.str p1],.ptr [.str p2]] (λz0 r hr=>aLO z0 p1 p2 r hr) x1 h2) ?_
 exact an (rt zR)⟩
instance:bK 376 (∀p0 p1 r (h:Cr p0 p1=some r),Sc 376 [aX (M.aJ.en p0),aI p1] [rI r]):=⟨λp0 p1 r h=>by
 unfold Cr at h
 simp only[EN]
 refine sgn 9 [.tmp 4] func376 λbase wd=> ?_
 refine sq (rn ?_)
 refine an (sq ?_)
 obtain⟨x1,h2,h⟩:=aA h
 refine rn1 (aKu p0.aLW (λz0=>AQ z0 p1) 479 [.ptr [.int .i64 p1]] (λz0 r hr=>aKc z0 p1 r hr) x1 h2) ?_
 exact an (rt zR)⟩
instance:bK 553 (∀p0 p1 r (h:HV p0 p1=some r),Sc 553 [aI p0,aI p1] [rI r]):=⟨λp0 p1 r h=>by unfold HV at h;exact sgo 18 [.tmp 4] func553⟩
instance:bK 52 (∀p0 p1 p2 r (h:rQ p0 p1 p2=some r),Sc 52 [aX (M.aLX.en p0),aI p1,aI p2] [(true,M.aLX.rs r.1),rB r.2]):=⟨λp0 p1 p2 r h=>by unfold rQ at h;exact sgo 38 [.cell 6 89,.tmp 7] func52⟩
instance aFd:bK 271 (∀p0 p1 r (h:mW p0 p1=some r),Sc 271 [aX (M.aE.en p0),aX (M.bD.en p1)] [rI r]):=⟨λp0 p1 r h=>by
 unfold mW at h
 simp only[EN]
 refine sgn 9 [.tmp 4] func271 λbase wd=> ?_
 refine sq (rn ?_)
 refine an (sq ?_)
 obtain⟨x1,h2,h⟩:=aA h
 refine rn1 (aJa p0.aLV (λz0=>BU z0 p1) 392 [.ptr [.int .i64 p1.aLn,.int .i64 p1.N,.str p1.aLu]] (λz0 r hr=>aK6 z0 p1 r hr) x1 h2) ?_
 exact an (rt zR)⟩
instance:bK 526 (∀p0 p1 r (h:xU p0 p1=some r),Sc 526 [aX (M.aN.en p0),aX (M.aN.en p1)] [rB r]):=⟨λp0 p1 r h=>by unfold xU at h;exact sgo 24 [.tmp 4] func526⟩
