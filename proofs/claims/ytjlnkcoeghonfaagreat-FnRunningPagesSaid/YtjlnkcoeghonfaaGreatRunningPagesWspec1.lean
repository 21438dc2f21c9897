/-
  Helper text. No conditions.
-/
import Derived.Test.YtjlnkcoeghonfaaGreatRunningPagesTi
set_option linter.all false
namespace Go.Proofs.YtjlnkcoeghonfaaGreat.gen
open Go Go.Sh Tryz
set_option maxRecDepth 20000
set_option maxHeartbeats 4000000
instance aFg:bK 338 (∀p0 r (h:yD p0=some r),Sc 338 [aX (M.aLb.en p0)] [(true,M.aLb.rs r)]):=⟨λp0 r h=>by unfold yD at h;exact sgo 11 [.cell 2 107] func338⟩
instance:bK 453 (∀p0 r (h:CY p0=some r),Sc 453 [aX (M.aLi.en p0)] [(true,M.aLi.rs r)]):=⟨λp0 r h=>by
 have i1:=G8 [.b 3 1 7050000 279 7] λm s=>∃v4:Int,∃aa:List M.aLr,∃ae:Nat,(s.t 1=vP 1 1 0/\s.t 2=vP 2 1 0/\s.t 3=vP 3 1 0/\s.t 4=vI v4/\s.h 1=(1,oX 277 (M.aLi.en p0))/\s.h 2=(1,oB 277 [cI 0,.nil])/\s.h 3=(1,oB 277 [cI p0.aLT,.row 7050000 ae])/\s.h 7050000=(ae,oW 279 7 M.aLr.en aa))/\pN p0 m v4 aa=some r
 have e1:=@pN.eq_2
 unfold CY at h
 exact sgo 36 [.cell 2 277] func453⟩
instance:bK 225 (∀p0 r (h:Aq p0=some r),Sc 225 [aL M.aZ.en p0] [rW 197 4 M.aZ.en r]):=⟨λp0 r h=>by unfold Aq at h;exact sgo 6 [.tmp 2] func225⟩
instance:bK 110 (∀p0 r (h:Bf p0=some r),Sc 110 [aX (M.aLX.en p0)] [(true,M.aLX.rs r)]):=⟨λp0 r h=>by unfold Bf at h;exact sgo 15 [.cell 2 89] func110⟩
instance:bK 106 (∀p0 r (h:Bj p0=some r),Sc 106 [aX (M.aT.en p0)] [(true,M.aT.rs r)]):=⟨λp0 r h=>by unfold Bj at h;exact sgo 8 [.cell 2 43] func106⟩
instance:bK 107 (∀p0 r (h:CB p0=some r),Sc 107 [aX (M.aLe.en p0)] [(true,M.aLe.rs r)]):=⟨λp0 r h=>by unfold CB at h;exact sgo 8 [.cell 2 46] func107⟩
instance:bK 92 (∀p0 p1 p2 r (h:fB p0 p1 p2=some r),Sc 92 [aX (M.aC.en p0),aS p1,aS p2] [rI r]):=⟨λp0 p1 p2 r h=>by
 have i1:=inv λm s=>∃v7:Int,(s.t 1=vS p1/\s.t 2=vS p2/\s.t 3=vP 3 1 0/\s.t 7=vI v7/\s.h 3=(1,oX 39 (M.aC.en p0)))/\kC p0 p1 p2 m v7=some r
 have e1:=@kC.eq_2
 unfold fB at h
 exact sgo 34 [.tmp 6] func92⟩
instance aFt:bK 229 (∀p0 p1 r (h:nF p0 p1=some r),Sc 229 [aX (M.aLS.en p0),aS p1] [rI r]):=⟨λp0 p1 r h=>by
 have i1:=inv λm s=>∃v5:Int,(s.t 1=vS p1/\s.t 2=vP 2 1 0/\s.t 5=vI v5/\s.h 2=(1,oX 70 (M.aLS.en p0)))/\oE p0 p1 m v5=some r
 have e1:=@oE.eq_2
 unfold nF at h
 exact sgo 22 [.tmp 4] func229⟩
instance:bK 530 (∀p0 p1 r (h:BE p0 p1=some r),Sc 530 [aX (M.aLb.en p0),aB p1] [rI r]):=⟨λp0 p1 r h=>by unfold BE at h;exact sgo 10 [.tmp 4] func530⟩
instance:bK 443 (∀p0 r (h:Bt p0=some r),Sc 443 [aX (M.aJ.en p0)] [rI r]):=⟨λp0 r h=>by
 have i1:=inv λm s=>∃v3:Int,∃v4:Int,(s.t 1=vP 1 1 0/\s.t 3=vI v3/\s.t 4=vI v4/\s.h 1=(1,oX 66 (M.aJ.en p0)))/\fV p0 m v3 v4=some r
 have e1:=@fV.eq_2
 have i2:=λ(v4:Int) (k8:Int->Int->Option Int)=>inv λm s=>∃aa:Int,∃ae:Int,(s.t 1=vP 1 1 0/\s.t 3=vI aa/\s.t 4=vI v4/\s.t 5=vI ae/\s.h 1=(1,oX 66 (M.aJ.en p0)))/\mI p0 v4 k8 m aa ae=some r
 have e2:=@mI.eq_2
 unfold Bt at h
 exact sgo 43 [.tmp 2] func443⟩
instance:bK 595 (∀p0 p1 p2 r (h:Eo p0 p1 p2=some r),Sc 595 [aL M.uY.en p0,aI p1,aX (M.uY.en p2)] [rB r]):=⟨λp0 p1 p2 r h=>by
 have i1:=inv λm s=>∃v7:Int,(s.t 0=vL M.uY.en p0/\s.t 1=vI p1/\s.t 5=vP 5 1 0/\s.t 7=vI v7/\s.h 5=(1,oX 144 (M.uY.en p2)))/\rR p0 p1 p2 m v7=some r
 have e1:=@rR.eq_2
 unfold Eo at h
 exact sgo 42 [.tmp 6] func595⟩
instance:bK 565 (∀p0 r (h:yU p0=some r),Sc 565 [aX (M.aT.en p0)] [(true,M.aT.rs r)]):=⟨λp0 r h=>by
 have i1:=inv λm s=>∃v4:Int,∃r6:List M.uY,(s.t 2=vP 2 1 0/\s.t 3=vP 3 1 0/\s.t 4=vI v4/\s.h 2=(1,oB 43 [.nil])/\s.h 3=(1,oB 43 [.row 100006 1])/\s.h 100006=(1,oW 144 4 M.uY.en r6))/\gA m v4 r6=some r
 have e1:=@gA.eq_2
 unfold yU at h
 exact sgo 38 [.cell 2 43] func565⟩
theorem aK5(p0 p1 r)(h:Cm p0 p1=some r):Sc 501 [aX (M.aLe.en p0),aI p1] [(true,M.aLe.rs r)]:=by
 have i1:=G8 [.b 5 0 7050000 147 3] λm s=>∃I:Int,∃j:List M.Fy,∃C:Nat,(s.t 1=vI p1/\s.t 2=vP 2 1 0/\s.t 4=vP 4 1 0/\s.t 5=vP 5 1 0/\s.t 6=vI I/\s.h 2=(1,oX 46 (M.aLe.en p0))/\s.h 4=(1,oB 46 [.nil])/\s.h 5=(1,oB 46 [.row 7050000 C])/\s.h 7050000=(C,oW 147 3 M.Fy.en j))/\lA p0 p1 m I j=some r
 have e1:=@lA.eq_2
 unfold Cm at h
 exact sgo 34 [.cell 4 46] func501
instance:bK 115 (∀r (h:dB=some r),Sc 115 [] [(true,M.aLb.rs r)]):=⟨λr h=>by unfold dB at h;exact sgo 2 [.cell 0 107] func115⟩
instance aE3:bK 336 (∀p0 p1 r (h:AG p0 p1=some r),Sc 336 [aX (M.aJ.en p0),aI p1] [rI r]):=⟨λp0 p1 r h=>by
 have i1:=inv λm s=>∃v5:Int,(s.t 1=vI p1/\s.t 2=vP 2 1 0/\s.t 5=vI v5/\s.h 2=(1,oX 66 (M.aJ.en p0)))/\nQ p0 p1 m v5=some r
 have e1:=@nQ.eq_2
 unfold AG at h
 exact sgo 22 [.tmp 4] func336⟩
instance aFT:bK 337 (∀p0 p1 p2 r (h:Cu p0 p1 p2=some r),Sc 337 [aX (M.aLi.en p0),aS p1,aS p2] [rI r]):=⟨λp0 p1 p2 r h=>by
 have i1:=inv λm s=>∃v7:Int,(s.t 1=vS p1/\s.t 2=vS p2/\s.t 3=vP 3 1 0/\s.t 7=vI v7/\s.h 3=(1,oX 277 (M.aLi.en p0)))/\pD p0 p1 p2 m v7=some r
 have e1:=@pD.eq_2
 unfold Cu at h
 exact sgo 34 [.tmp 6] func337⟩
instance:bK 226 (∀p0 p1 p2 p3 r (h:BB p0 p1 p2 p3=some r),Sc 226 [aX (M.aJ.en p0),aI p1,aS p2,aS p3] [(true,M.aLb.rs r.1),rB r.2]):=⟨λp0 p1 p2 p3 r h=>by unfold BB at h;exact sgo 40 [.cell 8 107,.tmp 9] func226⟩
instance:bK 340 (∀p0 p1 r (h:DE p0 p1=some r),Sc 340 [aX (M.aLa.en p0),aS p1] [rB r]):=⟨λp0 p1 r h=>by
 have i1:=inv λm s=>∃v5:Int,(s.t 1=vS p1/\s.t 2=vP 2 1 0/\s.t 5=vI v5/\s.h 2=(1,oX 151 (M.aLa.en p0)))/\sW p0 p1 m v5=some r
 have e1:=@sW.eq_2
 unfold DE at h
 exact sgo 20 [.tmp 4] func340⟩
instance:bK 457 (∀p0 p1 r (h:gW p0 p1=some r),Sc 457 [aL enB p0,aI p1] [rI r.1,rI r.2.1,rB r.2.2]):=⟨λp0 p1 r h=>by
 have i1:=inv λm s=>∃v7:Int,∃v8:Int,(s.t 0=vL enB p0/\s.t 1=vI p1/\s.t 7=vI v7/\s.t 8=vI v8)/\fD p0 p1 m v7 v8=some r
 have e1:=@fD.eq_2
 unfold gW at h
 exact sgo 55 [.tmp 4,.tmp 5,.tmp 6] func457⟩
instance:bK 456 (∀p0 p1 p2 r (h:fA p0 p1 p2=some r),Sc 456 [aL enB p0,aI p1,aI p2] [rW 5 1 enB r.1,rI r.2.1,rB r.2.2]):=⟨λp0 p1 p2 r h=>by unfold fA at h;exact sgo 46 [.tmp 6,.tmp 7,.tmp 8] func456⟩
instance:bK 122 (∀p0 r (h:AP p0=some r),Sc 122 [aI p0] [(true,M.bD.rs r)]):=⟨λp0 r h=>by unfold AP at h;exact sgo 5 [.cell 2 216] func122⟩
instance:bK 615 (∀p0 r (h:Ds p0=some r),Sc 615 [aX (M.aN.en p0)] [(true,M.bR.rs r.1),rB r.2]):=⟨λp0 r h=>by unfold Ds at h;exact sgo 13 [.cell 2 269,.tmp 3] func615⟩
