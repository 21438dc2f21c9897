/-
  Helper text. No conditions.
-/
import Derived.Test.YtjlnkcoeghonfaaGreatRunPageTi
set_option linter.all false
namespace Go.Proofs.YtjlnkcoeghonfaaGreat.gen
open Go Go.Sh
set_option maxRecDepth 20000
set_option maxHeartbeats 4000000
instance:aW 231 (∀p0 r (h:cD p0=some r),Sc 231 [aX (M.aC.en p0)] [(true,M.aC.rs r)]):=⟨λp0 r h=>by unfold cD at h;exact sgo 8 [.cell 2 207] Tryz.func231⟩
instance:aW 335 (∀p0 r (h:yZ p0=some r),Sc 335 [aX (M.aJt.en p0)] [(true,M.aJt.rs r)]):=⟨λp0 r h=>by unfold yZ at h;exact sgo 9 [.cell 2 320] Tryz.func335⟩
instance:aW 225 (∀p0 r (h:Aa p0=some r),Sc 225 [aL M.Instr.en p0] [rW 197 4 M.Instr.en r]):=⟨λp0 r h=>by unfold Aa at h;exact sgo 6 [.tmp 2] Tryz.func225⟩
instance:aW 110 (∀p0 r (h:wC p0=some r),Sc 110 [aX (M.aJn.en p0)] [(true,M.aJn.rs r)]):=⟨λp0 r h=>by unfold wC at h;exact sgo 15 [.cell 2 89] Tryz.func110⟩
instance:aW 106 (∀p0 r (h:AP p0=some r),Sc 106 [aX (M.aP.en p0)] [(true,M.aP.rs r)]):=⟨λp0 r h=>by unfold AP at h;exact sgo 8 [.cell 2 43] Tryz.func106⟩
instance:aW 107 (∀p0 r (h:AL p0=some r),Sc 107 [aX (M.aJu.en p0)] [(true,M.aJu.rs r)]):=⟨λp0 r h=>by unfold AL at h;exact sgo 8 [.cell 2 46] Tryz.func107⟩
instance c93:aW 93 (∀p0 p1 p2 r (h:bB p0 p1 p2=some r),Sc 93 [aI p0,aI p1,aI p2] [rB r]):=⟨λp0 p1 p2 r h=>by unfold bB at h;exact sgo 15 [.tmp 6] Tryz.func93⟩
instance aAR:aW 204 (∀p0 r (h:cE p0=some r),Sc 204 [aS p0] [rB r]):=⟨λp0 r h=>by
 have i1:=inv λm s=>∃v3:Int,(s.t 0=vS p0/\s.t 3=vI v3)/\nL p0 m v3=some r
 have e1:=@nL.eq_2
 unfold cE at h
 exact sgo 23 [.tmp 2] Tryz.func204⟩
instance:aW 89 (∀r (h:xI=some r),Sc 89 [] [rW 9 1 enS r]):=⟨λr h=>by unfold xI at h;exact sgo 2 [.tmp 0] Tryz.func89⟩
instance:aW 439 (∀p0 r (h:BN p0=some r),Sc 439 [aS p0] [rB r]):=⟨λp0 r h=>by
 have i1:=inv λm s=>∃v3:Int,(s.t 0=vS p0/\s.t 3=vI v3)/\iG p0 m v3=some r
 have e1:=@iG.eq_2
 unfold BN at h
 exact sgo 35 [.tmp 2] Tryz.func439⟩
instance:aW 317 (∀p0 r (h:fL p0=some r),Sc 317 [aX (M.Key.en p0)] [rB r]):=⟨λp0 r h=>by unfold fL at h;exact sgo 36 [.tmp 2] Tryz.func317⟩
instance:aW 440 (∀p0 p1 r (h:BQ p0 p1=some r),Sc 440 [aB p0,aB p1] [rI r]):=⟨λp0 p1 r h=>by unfold BQ at h;exact sgo 7 [.tmp 4] Tryz.func440⟩
instance:aW 92 (∀p0 p1 p2 r (h:fF p0 p1 p2=some r),Sc 92 [aX (M.aA.en p0),aS p1,aS p2] [rI r]):=⟨λp0 p1 p2 r h=>by
 have i1:=inv λm s=>∃v7:Int,(s.t 1=vS p1/\s.t 2=vS p2/\s.t 3=vP 3 1 0/\s.t 7=vI v7/\s.h 3=(1,oX 39 (M.aA.en p0)))/\gG p0 p1 p2 m v7=some r
 have e1:=@gG.eq_2
 unfold fF at h
 exact sgo 34 [.tmp 6] Tryz.func92⟩
instance:aW 528 (∀p0 r (h:yA p0=some r),Sc 528 [aX (M.aJo.en p0)] [rB r]):=⟨λp0 r h=>by unfold yA at h;exact sgo 22 [.tmp 2] Tryz.func528⟩
instance:aW 118 (∀p0 p1 r (h:hP p0 p1=some r),Sc 118 [aX (M.aC.en p0),aS p1] [rI r.1,rB r.2]):=⟨λp0 p1 r h=>by
 have i1:=inv λm s=>∃v6:Int,(s.t 1=vS p1/\s.t 2=vP 2 1 0/\s.t 6=vI v6/\s.h 2=(1,oX 207 (M.aC.en p0)))/\pR p0 p1 m v6=some r
 have e1:=@pR.eq_2
 unfold hP at h
 exact sgo 28 [.tmp 4,.tmp 5] Tryz.func118⟩
instance:aW 346 (∀p0 p1 r (h:bX p0 p1=some r),Sc 346 [aL enB p0,aI p1] [rW 5 1 enB r]):=⟨λp0 p1 r h=>by
 have i1:=inv λm s=>∃v1:Int,∃r6:List Int,∃u6:Nat,(s.t 1=vI v1/\s.t 5=vR 100006 u6/\s.h 100006=(u6,oW 5 1 enB r6))/\cV m v1 r6=some r
 have e1:=@cV.eq_2
 unfold bX at h
 exact sgo 29 [.tmp 4] Tryz.func346⟩
instance:aW 209 (∀p0 r (h:wN p0=some r),Sc 209 [aS p0] [rB r]):=⟨λp0 r h=>by
 have i1:=inv λm s=>∃v3:Int,(s.t 0=vS p0/\s.t 3=vI v3)/\dS p0 m v3=some r
 have e1:=@dS.eq_2
 unfold wN at h
 exact sgo 29 [.tmp 2] Tryz.func209⟩
instance:aW 119 (∀p0 p1 r (h:FL p0 p1=some r),Sc 119 [aI p0,aI p1] [rI r]):=⟨λp0 p1 r h=>by unfold FL at h;exact sgo 10 [.tmp 4] Tryz.func119⟩
instance:aW 37 (∀p0 p1 r (h:uO p0 p1=some r),Sc 37 [aI p0,aI p1] [rI r]):=⟨λp0 p1 r h=>by unfold uO at h;exact sgo 10 [.tmp 4] Tryz.func37⟩
instance:aW 112 (∀p0 r (h:rE p0=some r),Sc 112 [aI p0] [rI r]):=⟨λp0 r h=>by unfold rE at h;exact sgo 6 [.tmp 2] Tryz.func112⟩
instance:aW 114 (∀p0 r (h:yP p0=some r),Sc 114 [aS p0] [rI r]):=⟨λp0 r h=>by
 have i1:=λ(x1:(List ByteArray))=>inv λm s=>∃v4:Int,(s.t 0=vS p0/\s.t 3=vR 100005 1/\s.t 4=vI v4/\s.h 100005=(1,oW 9 1 enS x1))/\jW p0 x1 m v4=some r
 have e1:=@jW.eq_2
 unfold yP at h
 exact sgo 19 [.tmp 2] Tryz.func114⟩
instance:aW 340 (∀p0 p1 r (h:Ct p0 p1=some r),Sc 340 [aX (M.aJr.en p0),aS p1] [rB r]):=⟨λp0 p1 r h=>by
 have i1:=inv λm s=>∃v5:Int,(s.t 1=vS p1/\s.t 2=vP 2 1 0/\s.t 5=vI v5/\s.h 2=(1,oX 151 (M.aJr.en p0)))/\oA p0 p1 m v5=some r
 have e1:=@oA.eq_2
 unfold Ct at h
 exact sgo 20 [.tmp 4] Tryz.func340⟩
instance:aW 542 (∀p0 p1 r (h:GS p0 p1=some r),Sc 542 [aI p0,aI p1] [rI r]):=⟨λp0 p1 r h=>by unfold GS at h;exact sgo 15 [.tmp 4] Tryz.func542⟩
instance:aW 212 (∀p0 p1 r (h:xQ p0 p1=some r),Sc 212 [aL enB p0,aL enB p1] [rB r]):=⟨λp0 p1 r h=>by unfold xQ at h;exact sgo 10 [.tmp 4] Tryz.func212⟩
