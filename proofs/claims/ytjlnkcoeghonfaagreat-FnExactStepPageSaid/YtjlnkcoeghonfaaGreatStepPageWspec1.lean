/-
  Helper text. No conditions.
-/
import Derived.Test.YtjlnkcoeghonfaaGreatStepPageTi
set_option linter.all false
namespace Go.Proofs.YtjlnkcoeghonfaaGreat.gen
open Go Go.Sh
set_option maxRecDepth 20000
set_option maxHeartbeats 4000000
instance:aZ 338 (∀p0 r (h:wA p0=some r),Sc 338 [aX (M.aJg.en p0)] [(true,M.aJg.rs r)]):=⟨λp0 r h=>by unfold wA at h;exact sgo 11 [.cell 2 107] Tryz.func338⟩
instance:aZ 453 (∀p0 r (h:Bl p0=some r),Sc 453 [aX (M.aJs.en p0)] [(true,M.aJs.rs r)]):=⟨λp0 r h=>by
 have i1:=Ni [.b 3 1 7050000 279 7] λm s=>∃v4:Int,∃aa:List M.aJo,∃ae:Nat,(s.t 1=vP 1 1 0/\s.t 2=vP 2 1 0/\s.t 3=vP 3 1 0/\s.t 4=vI v4/\s.h 1=(1,oX 277 (M.aJs.en p0))/\s.h 2=(1,oB 277 [cI 0,.nil])/\s.h 3=(1,oB 277 [cI p0.aJd,.row 7050000 ae])/\s.h 7050000=(ae,oW 279 7 M.aJo.en aa))/\mG p0 m v4 aa=some r
 have e1:=@mG.eq_2
 unfold Bl at h
 exact sgo 36 [.cell 2 277] Tryz.func453⟩
instance:aZ 353 (∀p0 r (h:wC p0=some r),Sc 353 [aX (M.aM.en p0)] [(true,M.aM.rs r)]):=⟨λp0 r h=>by unfold wC at h;exact sgo 11 [.cell 2 78] Tryz.func353⟩
instance:aZ 352 (∀p0 r (h:Cu p0=some r),Sc 352 [aX (M.aJx.en p0)] [(true,M.aJx.rs r)]):=⟨λp0 r h=>by unfold Cu at h;exact sgo 10 [.cell 2 80] Tryz.func352⟩
instance:aZ 108 (∀p0 r (h:CF p0=some r),Sc 108 [aX (M.aJj.en p0)] [(true,M.aJj.rs r)]):=⟨λp0 r h=>by unfold CF at h;exact sgo 11 [.cell 2 151] Tryz.func108⟩
instance:aZ 87 (∀p0 p1 r (h:CI p0 p1=some r),Sc 87 [aL M.bD.en p0,aI p1] [rI r]):=⟨λp0 p1 r h=>by
 have i1:=inv λm s=>∃v5:Int,(s.t 0=vL M.bD.en p0/\s.t 1=vI p1/\s.t 5=vI v5)/\nT p0 p1 m v5=some r
 have e1:=@nT.eq_2
 unfold CI at h
 exact sgo 20 [.tmp 4] Tryz.func87⟩
instance:aZ 18 (∀p0 p1 r (h:Ad p0 p1=some r),Sc 18 [aX (M.World.en p0),aI p1] [rI r]):=⟨λp0 p1 r h=>by unfold Ad at h;exact sgo 9 [.tmp 4] Tryz.func18⟩
instance:aZ 229 (∀p0 p1 r (h:nE p0 p1=some r),Sc 229 [aX (M.aJb.en p0),aS p1] [rI r]):=⟨λp0 p1 r h=>by
 have i1:=inv λm s=>∃v5:Int,(s.t 1=vS p1/\s.t 2=vP 2 1 0/\s.t 5=vI v5/\s.h 2=(1,oX 70 (M.aJb.en p0)))/\lE p0 p1 m v5=some r
 have e1:=@lE.eq_2
 unfold nE at h
 exact sgo 22 [.tmp 4] Tryz.func229⟩
instance:aZ 530 (∀p0 p1 r (h:xK p0 p1=some r),Sc 530 [aX (M.aJg.en p0),aB p1] [rI r]):=⟨λp0 p1 r h=>by unfold xK at h;exact sgo 10 [.tmp 4] Tryz.func530⟩
instance:aZ 443 (∀p0 r (h:xA p0=some r),Sc 443 [aX (M.aO.en p0)] [rI r]):=⟨λp0 r h=>by
 have i1:=inv λm s=>∃v3:Int,∃v4:Int,(s.t 1=vP 1 1 0/\s.t 3=vI v3/\s.t 4=vI v4/\s.h 1=(1,oX 66 (M.aO.en p0)))/\eR p0 m v3 v4=some r
 have e1:=@eR.eq_2
 have i2:=λ(v4:Int) (k8:Int->Int->Option Int)=>inv λm s=>∃aa:Int,∃ae:Int,(s.t 1=vP 1 1 0/\s.t 3=vI aa/\s.t 4=vI v4/\s.t 5=vI ae/\s.h 1=(1,oX 66 (M.aO.en p0)))/\iZ p0 v4 k8 m aa ae=some r
 have e2:=@iZ.eq_2
 unfold xA at h
 exact sgo 43 [.tmp 2] Tryz.func443⟩
instance:aZ 208 (∀p0 p1 p2 r (h:Ay p0 p1 p2=some r),Sc 208 [aX (M.aJa.en p0),aS p1,aS p2] [rB r]):=⟨λp0 p1 p2 r h=>by unfold Ay at h;exact sgo 23 [.tmp 6] Tryz.func208⟩
instance:aZ 113 (∀p0 p1 r (h:vJ p0 p1=some r),Sc 113 [aX (M.aJf.en p0),aX (M.Instr.en p1)] [(true,M.Ask.rs r)]):=⟨λp0 p1 r h=>by unfold vJ at h;exact sgo 50 [.cell 4 102] Tryz.func113⟩
instance:aZ 115 (∀r (h:cO=some r),Sc 115 [] [(true,M.aJg.rs r)]):=⟨λr h=>by unfold cO at h;exact sgo 2 [.cell 0 107] Tryz.func115⟩
instance:aZ 336 (∀p0 p1 r (h:Ao p0 p1=some r),Sc 336 [aX (M.aO.en p0),aI p1] [rI r]):=⟨λp0 p1 r h=>by
 have i1:=inv λm s=>∃v5:Int,(s.t 1=vI p1/\s.t 2=vP 2 1 0/\s.t 5=vI v5/\s.h 2=(1,oX 66 (M.aO.en p0)))/\kS p0 p1 m v5=some r
 have e1:=@kS.eq_2
 unfold Ao at h
 exact sgo 22 [.tmp 4] Tryz.func336⟩
instance:aZ 337 (∀p0 p1 p2 r (h:Co p0 p1 p2=some r),Sc 337 [aX (M.aJs.en p0),aS p1,aS p2] [rI r]):=⟨λp0 p1 p2 r h=>by
 have i1:=inv λm s=>∃v7:Int,(s.t 1=vS p1/\s.t 2=vS p2/\s.t 3=vP 3 1 0/\s.t 7=vI v7/\s.h 3=(1,oX 277 (M.aJs.en p0)))/\mA p0 p1 p2 m v7=some r
 have e1:=@mA.eq_2
 unfold Co at h
 exact sgo 34 [.tmp 6] Tryz.func337⟩
instance:aZ 226 (∀p0 p1 p2 p3 r (h:xH p0 p1 p2 p3=some r),Sc 226 [aX (M.aO.en p0),aI p1,aS p2,aS p3] [(true,M.aJg.rs r.1),rB r.2]):=⟨λp0 p1 p2 p3 r h=>by unfold xH at h;exact sgo 40 [.cell 8 107,.tmp 9] Tryz.func226⟩
instance:aZ 461 (∀p0 r (h:pT p0=some r),Sc 461 [aL enB p0] [rW 3 1 enI r]):=⟨λp0 r h=>by
 have i1:=inv λm s=>∃v4:Int,∃r7:List Int,∃u7:Nat,(s.t 0=vL enB p0/\s.t 3=vR 100007 u7/\s.t 4=vI v4/\s.h 100007=(u7,oW 3 1 enI r7))/\gV p0 m v4 r7=some r
 have e1:=@gV.eq_2
 unfold pT at h
 exact sgo 23 [.tmp 2] Tryz.func461⟩
instance:aZ 457 (∀p0 p1 r (h:fI p0 p1=some r),Sc 457 [aL enB p0,aI p1] [rI r.1,rI r.2.1,rB r.2.2]):=⟨λp0 p1 r h=>by
 have i1:=inv λm s=>∃v7:Int,∃v8:Int,(s.t 0=vL enB p0/\s.t 1=vI p1/\s.t 7=vI v7/\s.t 8=vI v8)/\eG p0 p1 m v7 v8=some r
 have e1:=@eG.eq_2
 unfold fI at h
 exact sgo 55 [.tmp 4,.tmp 5,.tmp 6] Tryz.func457⟩
instance:aZ 456 (∀p0 p1 p2 r (h:eC p0 p1 p2=some r),Sc 456 [aL enB p0,aI p1,aI p2] [rW 5 1 enB r.1,rI r.2.1,rB r.2.2]):=⟨λp0 p1 p2 r h=>by unfold eC at h;exact sgo 46 [.tmp 6,.tmp 7,.tmp 8] Tryz.func456⟩
instance:aZ 230 (∀p0 p1 r (h:gX p0 p1=some r),Sc 230 [aX (M.aD.en p0),aX (M.Key.en p1)] [rI r]):=⟨λp0 p1 r h=>by
 have i1:=inv λm s=>∃v5:Int,(s.t 2=vP 2 1 0/\s.t 3=vP 3 1 0/\s.t 5=vI v5/\s.h 2=(1,oX 75 (M.aD.en p0))/\s.h 3=(1,oX 216 (M.Key.en p1)))/\mR p0 p1 m v5=some r
 have e1:=@mR.eq_2
 unfold gX at h
 exact sgo 22 [.tmp 4] Tryz.func230⟩
instance:aZ 122 (∀p0 r (h:vC p0=some r),Sc 122 [aI p0] [(true,M.Key.rs r)]):=⟨λp0 r h=>by unfold vC at h;exact sgo 5 [.cell 2 216] Tryz.func122⟩
