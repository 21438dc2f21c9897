/-
  Helper text. No conditions.
-/
import Derived.Test.YtjlnkcoeghonfaaGreatRunPageTi
set_option linter.all false
namespace Go.Proofs.YtjlnkcoeghonfaaGreat.gen
open Go Go.Sh
set_option maxRecDepth 20000
set_option maxHeartbeats 4000000
instance:aW 338 (∀p0 r (h:wD p0=some r),Sc 338 [aX (M.aJo.en p0)] [(true,M.aJo.rs r)]):=⟨λp0 r h=>by unfold wD at h;exact sgo 11 [.cell 2 107] Tryz.func338⟩
instance:aW 453 (∀p0 r (h:Bp p0=some r),Sc 453 [aX (M.aJ0.en p0)] [(true,M.aJ0.rs r)]):=⟨λp0 r h=>by
 have i1:=Mt [.b 3 1 7050000 279 7] λm s=>∃v4:Int,∃aa:List M.aJx,∃ae:Nat,(s.t 1=vP 1 1 0/\s.t 2=vP 2 1 0/\s.t 3=vP 3 1 0/\s.t 4=vI v4/\s.h 1=(1,oX 277 (M.aJ0.en p0))/\s.h 2=(1,oB 277 [cI 0,.nil])/\s.h 3=(1,oB 277 [cI p0.aJl,.row 7050000 ae])/\s.h 7050000=(ae,oW 279 7 M.aJx.en aa))/\mI p0 m v4 aa=some r
 have e1:=@mI.eq_2
 unfold Bp at h
 exact sgo 36 [.cell 2 277] Tryz.func453⟩
instance:aW 353 (∀p0 r (h:wF p0=some r),Sc 353 [aX (M.aM.en p0)] [(true,M.aM.rs r)]):=⟨λp0 r h=>by unfold wF at h;exact sgo 11 [.cell 2 78] Tryz.func353⟩
instance:aW 352 (∀p0 r (h:Cz p0=some r),Sc 352 [aX (M.aJ7.en p0)] [(true,M.aJ7.rs r)]):=⟨λp0 r h=>by unfold Cz at h;exact sgo 10 [.cell 2 80] Tryz.func352⟩
instance:aW 108 (∀p0 r (h:CK p0=some r),Sc 108 [aX (M.aJr.en p0)] [(true,M.aJr.rs r)]):=⟨λp0 r h=>by unfold CK at h;exact sgo 11 [.cell 2 151] Tryz.func108⟩
instance:aW 87 (∀p0 p1 r (h:CO p0 p1=some r),Sc 87 [aL M.bD.en p0,aI p1] [rI r]):=⟨λp0 p1 r h=>by
 have i1:=inv λm s=>∃v5:Int,(s.t 0=vL M.bD.en p0/\s.t 1=vI p1/\s.t 5=vI v5)/\nW p0 p1 m v5=some r
 have e1:=@nW.eq_2
 unfold CO at h
 exact sgo 20 [.tmp 4] Tryz.func87⟩
instance:aW 18 (∀p0 p1 r (h:Af p0 p1=some r),Sc 18 [aX (M.World.en p0),aI p1] [rI r]):=⟨λp0 p1 r h=>by unfold Af at h;exact sgo 9 [.tmp 4] Tryz.func18⟩
instance:aW 229 (∀p0 p1 r (h:nG p0 p1=some r),Sc 229 [aX (M.aJj.en p0),aS p1] [rI r]):=⟨λp0 p1 r h=>by
 have i1:=inv λm s=>∃v5:Int,(s.t 1=vS p1/\s.t 2=vP 2 1 0/\s.t 5=vI v5/\s.h 2=(1,oX 70 (M.aJj.en p0)))/\lG p0 p1 m v5=some r
 have e1:=@lG.eq_2
 unfold nG at h
 exact sgo 22 [.tmp 4] Tryz.func229⟩
instance:aW 530 (∀p0 p1 r (h:xM p0 p1=some r),Sc 530 [aX (M.aJo.en p0),aB p1] [rI r]):=⟨λp0 p1 r h=>by unfold xM at h;exact sgo 10 [.tmp 4] Tryz.func530⟩
instance:aW 443 (∀p0 r (h:xC p0=some r),Sc 443 [aX (M.aO.en p0)] [rI r]):=⟨λp0 r h=>by
 have i1:=inv λm s=>∃v3:Int,∃v4:Int,(s.t 1=vP 1 1 0/\s.t 3=vI v3/\s.t 4=vI v4/\s.h 1=(1,oX 66 (M.aO.en p0)))/\eS p0 m v3 v4=some r
 have e1:=@eS.eq_2
 have i2:=λ(v4:Int) (k8:Int->Int->Option Int)=>inv λm s=>∃aa:Int,∃ae:Int,(s.t 1=vP 1 1 0/\s.t 3=vI aa/\s.t 4=vI v4/\s.t 5=vI ae/\s.h 1=(1,oX 66 (M.aO.en p0)))/\jU p0 v4 k8 m aa ae=some r
 have e2:=@jU.eq_2
 unfold xC at h
 exact sgo 43 [.tmp 2] Tryz.func443⟩
instance:aW 208 (∀p0 p1 p2 r (h:AA p0 p1 p2=some r),Sc 208 [aX (M.aJi.en p0),aS p1,aS p2] [rB r]):=⟨λp0 p1 p2 r h=>by unfold AA at h;exact sgo 23 [.tmp 6] Tryz.func208⟩
instance:aW 113 (∀p0 p1 r (h:vN p0 p1=some r),Sc 113 [aX (M.aJn.en p0),aX (M.Instr.en p1)] [(true,M.Ask.rs r)]):=⟨λp0 p1 r h=>by unfold vN at h;exact sgo 50 [.cell 4 102] Tryz.func113⟩
instance:aW 115 (∀r (h:cO=some r),Sc 115 [] [(true,M.aJo.rs r)]):=⟨λr h=>by unfold cO at h;exact sgo 2 [.cell 0 107] Tryz.func115⟩
instance:aW 336 (∀p0 p1 r (h:Aq p0 p1=some r),Sc 336 [aX (M.aO.en p0),aI p1] [rI r]):=⟨λp0 p1 r h=>by
 have i1:=inv λm s=>∃v5:Int,(s.t 1=vI p1/\s.t 2=vP 2 1 0/\s.t 5=vI v5/\s.h 2=(1,oX 66 (M.aO.en p0)))/\kU p0 p1 m v5=some r
 have e1:=@kU.eq_2
 unfold Aq at h
 exact sgo 22 [.tmp 4] Tryz.func336⟩
instance:aW 337 (∀p0 p1 p2 r (h:Cs p0 p1 p2=some r),Sc 337 [aX (M.aJ0.en p0),aS p1,aS p2] [rI r]):=⟨λp0 p1 p2 r h=>by
 have i1:=inv λm s=>∃v7:Int,(s.t 1=vS p1/\s.t 2=vS p2/\s.t 3=vP 3 1 0/\s.t 7=vI v7/\s.h 3=(1,oX 277 (M.aJ0.en p0)))/\mC p0 p1 p2 m v7=some r
 have e1:=@mC.eq_2
 unfold Cs at h
 exact sgo 34 [.tmp 6] Tryz.func337⟩
instance:aW 226 (∀p0 p1 p2 p3 r (h:xJ p0 p1 p2 p3=some r),Sc 226 [aX (M.aO.en p0),aI p1,aS p2,aS p3] [(true,M.aJo.rs r.1),rB r.2]):=⟨λp0 p1 p2 p3 r h=>by unfold xJ at h;exact sgo 40 [.cell 8 107,.tmp 9] Tryz.func226⟩
instance:aW 461 (∀p0 r (h:pY p0=some r),Sc 461 [aL enB p0] [rW 3 1 enI r]):=⟨λp0 r h=>by
 have i1:=inv λm s=>∃v4:Int,∃r7:List Int,∃u7:Nat,(s.t 0=vL enB p0/\s.t 3=vR 100007 u7/\s.t 4=vI v4/\s.h 100007=(u7,oW 3 1 enI r7))/\gW p0 m v4 r7=some r
 have e1:=@gW.eq_2
 unfold pY at h
 exact sgo 23 [.tmp 2] Tryz.func461⟩
instance:aW 457 (∀p0 p1 r (h:fI p0 p1=some r),Sc 457 [aL enB p0,aI p1] [rI r.1,rI r.2.1,rB r.2.2]):=⟨λp0 p1 r h=>by
 have i1:=inv λm s=>∃v7:Int,∃v8:Int,(s.t 0=vL enB p0/\s.t 1=vI p1/\s.t 7=vI v7/\s.t 8=vI v8)/\eG p0 p1 m v7 v8=some r
 have e1:=@eG.eq_2
 unfold fI at h
 exact sgo 55 [.tmp 4,.tmp 5,.tmp 6] Tryz.func457⟩
instance:aW 456 (∀p0 p1 p2 r (h:eD p0 p1 p2=some r),Sc 456 [aL enB p0,aI p1,aI p2] [rW 5 1 enB r.1,rI r.2.1,rB r.2.2]):=⟨λp0 p1 p2 r h=>by unfold eD at h;exact sgo 46 [.tmp 6,.tmp 7,.tmp 8] Tryz.func456⟩
instance:aW 230 (∀p0 p1 r (h:gY p0 p1=some r),Sc 230 [aX (M.aD.en p0),aX (M.Key.en p1)] [rI r]):=⟨λp0 p1 r h=>by
 have i1:=inv λm s=>∃v5:Int,(s.t 2=vP 2 1 0/\s.t 3=vP 3 1 0/\s.t 5=vI v5/\s.h 2=(1,oX 75 (M.aD.en p0))/\s.h 3=(1,oX 216 (M.Key.en p1)))/\mT p0 p1 m v5=some r
 have e1:=@mT.eq_2
 unfold gY at h
 exact sgo 22 [.tmp 4] Tryz.func230⟩
instance:aW 122 (∀p0 r (h:vF p0=some r),Sc 122 [aI p0] [(true,M.Key.rs r)]):=⟨λp0 r h=>by unfold vF at h;exact sgo 5 [.cell 2 216] Tryz.func122⟩
