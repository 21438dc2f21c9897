/-
  Helper text. No conditions.
-/
import Derived.Test.YtndidbigdalbnaaGreatNotesWimpl0
import Derived.Test.YtndidbigdalbnaaGreatNotesWimpl1
set_option linter.all false
namespace Go.Proofs.YtndidbigdalbnaaGreat.gen
open Go Go.Sh Tryz
set_option maxRecDepth 20000
set_option maxHeartbeats 4000000
instance:bU 181 (∀p0 r (h:A5 p0=some r),Sc 181 [aX (M.aKy.en p0)] [(true,M.aKy.rs r)]):=⟨λp0 r h=>by unfold A5 at h;exact sgo 9 [.cell 2 153] func181⟩
instance aE3:bU 111 (∀p0 r (h:bH p0=some r),Sc 111 [aX (M.aD.en p0)] [(true,M.aD.rs r)]):=⟨λp0 r h=>by
 have i1:=He [.b 3 1 7050000 153 4] λm s=>∃af:Int,∃aa:List M.aKy,∃ae:Nat,(s.t 2=vP 2 1 0/\s.t 3=vP 3 1 0/\s.t 12=vL M.aKy.en p0.aKg/\s.t 13=vI (List.length p0.aKg:Int)/\s.t 14=vI af/\s.h 2=(1,oB 66 [cS (⟨#[]⟩:ByteArray),.nil,cI 0])/\s.h 3=(1,oB 66 [cS p0.Name,.row 7050000 ae,cI p0.aK7])/\s.h 7050000=(ae,oW 153 4 M.aKy.en aa))/\nF p0 m af aa=some r
 have e1:=@nF.eq_2
 unfold bH at h
 exact sgo 27 [.cell 2 66] func111⟩
instance:bU 198 (∀p0 r (h:Cq p0=some r),Sc 198 [aX (M.aK3.en p0)] [(true,M.aK3.rs r)]):=⟨λp0 r h=>by unfold Cq at h;exact sgo 8 [.cell 2 71] func198⟩
instance:bU 57 (∀p0 p1 p2 r (h:nU p0 p1 p2=some r),Sc 57 [aX (M.aC.en p0),aS p1,aS p2] [rI r]):=⟨λp0 p1 p2 r h=>by
 unfold nU at h
 simp only[EN]
 refine sgn 11 [.tmp 6] func57 λbase wd=> ?_
 refine sq (rn ?_)
 refine an (sq ?_)
 obtain⟨x1,h2,h⟩:=aA h
 refine rn1 (aJZ p0.aKf (λz0=>xV z0 p1 p2) 113 [.ptr [.str p1],.ptr [.str p2]] (λz0 r hr=>aJx z0 p1 p2 r hr) x1 h2) ?_
 exact an (rt zR)⟩
instance:bU 19 (∀p0 p1 p2 r (h:mJ p0 p1 p2=some r),Sc 19 [aX (M.aE.en p0),aS p1,aS p2] [(true,M.aKe.ra r.1),rB r.2]):=⟨λp0 p1 p2 r h=>by unfold mJ at h;exact sgo 23 [.cell 6 75,.tmp 7] func19⟩
instance aDc:bU 114 (∀p0 p1 p2 r (h:eQ p0 p1 p2=some r),Sc 114 [aL enB p0,aI p1,aI p2] [rW 5 1 enB r.1,rI r.2.1,rB r.2.2]):=⟨λp0 p1 p2 r h=>by unfold eQ at h;exact sgo 45 [.tmp 6,.tmp 7,.tmp 8] func114⟩
instance:bU 191 (∀p0 p1 p2 r (h:Ct p0 p1 p2=some r),Sc 191 [aS p0,aI p1,aB p2] [rB r]):=⟨λp0 p1 p2 r h=>by
 have i1:=inv λm s=>∃v7:Int,(s.t 0=vS p0/\s.t 1=vI p1/\s.t 2=vB p2/\s.t 7=vI v7)/\mY p0 p1 p2 m v7=some r
 have e1:=@mY.eq_2
 unfold Ct at h
 exact sgo 38 [.tmp 6] func191⟩
instance aFh:bU 130 (∀p0 r (h:cG p0=some r),Sc 130 [aS p0] [rB r]):=⟨λp0 r h=>by unfold cG at h;exact sgo 5 [.tmp 2] func130⟩
instance aEq:bU 134 (∀p0 p1 r (h:cW p0 p1=some r),Sc 134 [aL enB p0,aI p1] [rW 5 1 enB r]):=⟨λp0 p1 r h=>by
 have i1:=inv λm s=>∃v1:Int,∃r7:List Int,∃u7:Nat,(s.t 1=vI v1/\s.t 5=vR 100007 u7/\s.h 100007=(u7,oW 5 1 enB r7))/\dH m v1 r7=some r
 have e1:=@dH.eq_2
 unfold cW at h
 exact sgo 28 [.tmp 4] func134⟩
instance aFg:bU 137 (∀p0 p1 r (h:kA p0 p1=some r),Sc 137 [aL enB p0,aL enB p1] [rW 5 1 enB r]):=⟨λp0 p1 r h=>by unfold kA at h;exact sgo 11 [.tmp 4] func137⟩
instance:bU 248 (∀p0 p1 p2 r (h:sV p0 p1 p2=some r),Sc 248 [aX (M.aKv.en p0),aS p1,aS p2] [rI r]):=⟨λp0 p1 p2 r h=>by
 unfold sV at h
 simp only[EN]
 refine sgn 11 [.tmp 6] func248 λbase wd=> ?_
 refine sq (rn ?_)
 refine an (sq ?_)
 obtain⟨x1,h2,h⟩:=aA h
 refine rn1 (aKT p0.aKs (λz0=>yY z0 p1 p2) 317 [.ptr [.str p1],.ptr [.str p2]] (λz0 r hr=>aKW z0 p1 p2 r hr) x1 h2) ?_
 exact an (rt zR)⟩
instance:bU 218 (∀p0 p1 r (h:xX p0 p1=some r),Sc 218 [aX (M.aF.en p0),aX (M.aF.en p1)] [rB r]):=⟨λp0 p1 r h=>by unfold xX at h;exact sgo 10 [.tmp 4] func218⟩
theorem aJm(p0 p1 r)(h:xJ p0 p1=some r):Sc 167 [aX (M.aKy.en p0),aX (M.aKy.en p1)] [rB r]:=by unfold xJ at h;exact sgo 17 [.tmp 4] func167
instance:bU 276 (∀p0 p1 r (h:vQ p0 p1=some r),Sc 276 [aX (M.aO.en p0),aX (M.aO.en p1)] [rB r]):=⟨λp0 p1 r h=>by unfold vQ at h;exact sgo 24 [.tmp 4] func276⟩
instance:bU 217 (∀p0 p1 r (h:A8 p0 p1=some r),Sc 217 [aX (M.aK3.en p0),aX (M.aK3.en p1)] [rB r]):=⟨λp0 p1 r h=>by unfold A8 at h;exact sgo 24 [.tmp 4] func217⟩
theorem c40(p0 p1 r)(h:rX p0 p1=some r):Sc 40 [aX (M.aKl.en p0),aX (M.aKl.en p1)] [rB r]:=by unfold rX at h;exact sgo 31 [.tmp 4] func40
