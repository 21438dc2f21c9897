/-
  Helper text. No conditions.
-/
import Derived.Test.YtbpbocchokbggaaGreatUpdatesWimpl5
set_option linter.all false
namespace Go.Proofs.YtbpbocchokbggaaGreat.gen
open Go Go.Sh
set_option maxRecDepth 20000
set_option maxHeartbeats 4000000
instance:bE 204 (∀p0 r (h:eE p0=some r),Sc 204 [aX (M.aI3.en p0)] [(true,M.aI3.rs r)]):=⟨λp0 r h=>by unfold eE at h;exact sgo 16 [.cell 2 126] Tryz.func204⟩
instance:bE 450 (∀p0 p1 r (h:lF p0 p1=some r),Sc 450 [aX (M.aD.en p0),aS p1] [(true,M.Key.rs r.1),(true,M.Key.rs r.2.1),rB r.2.2]):=⟨λp0 p1 r h=>by
 have i1:=λ(x1:(List M.aJN))=>inv λm s=>∃v8:Int,(s.t 1=vS p1/\s.t 4=vP 4 1 0/\s.t 5=vP 5 1 0/\s.t 7=vR 100015 1/\s.t 8=vI v8/\s.h 4=(1,oB 136 [cI 0,cI 0,cS (⟨#[]⟩:ByteArray)])/\s.h 5=(1,oB 136 [cI 0,cI 0,cS (⟨#[]⟩:ByteArray)])/\s.h 100015=(1,oW 260 4 M.aJN.en x1))/\fV p1 x1 m v8=some r
 have e1:=@fV.eq_2
 unfold lF at h
 exact sgo 59 [.cell 4 136,.cell 5 136,.tmp 6] Tryz.func450⟩
instance:bE 386 (∀p0 r (h:Az p0=some r),Sc 386 [aX (M.aG.en p0)] [rB r]):=⟨λp0 r h=>by unfold Az at h;exact sgo 23 [.tmp 2] Tryz.func386⟩
instance:bE 480 (∀p0 r (h:wZ p0=some r),Sc 480 [aX (M.aD.en p0)] [rI r]):=⟨λp0 r h=>by
 have i1:=inv λm s=>∃v3:Int,∃v9:Int,(s.t 3=vI v3/\s.t 7=vL M.aJN.en p0.aI6/\s.t 8=vI (List.length p0.aI6:Int)/\s.t 9=vI v9)/\mH p0 m v3 v9=some r
 have e1:=@mH.eq_2
 unfold wZ at h
 exact sgo 26 [.tmp 2] Tryz.func480⟩
instance:bE 244 (∀p0 r (h:Bf p0=some r),Sc 244 [aX (M.aJC.en p0)] [rB r]):=⟨λp0 r h=>by
 have i1:=inv λm s=>∃v10:Int,(s.t 1=vP 1 1 0/\s.t 8=vL M.aP.en p0.aP/\s.t 9=vI (List.length p0.aP:Int)/\s.t 10=vI v10/\s.h 1=(1,oX 205 (M.aJC.en p0)))/\iH p0 m v10=some r
 have e1:=@iH.eq_2
 have i2:=inv λm s=>∃aa:Int,(s.t 1=vP 1 1 0/\s.t 43=vL M.bC.en p0.aJU/\s.t 44=vI (List.length p0.aJU:Int)/\s.t 45=vI aa/\s.h 1=(1,oX 205 (M.aJC.en p0)))/\lE p0 m aa=some r
 have e2:=@lE.eq_2
 unfold Bf at h
 exact sgo 68 [.tmp 2] Tryz.func244⟩
instance:bE 390 (∀p0 p1 p2 r (h:Aj p0 p1 p2=some r),Sc 390 [aX (M.aI7.en p0),aS p1,aI p2] [rW 5 1 enB r]):=⟨λp0 p1 p2 r h=>by
 have i1:=λ(x5:Int)=>inv λm s=>∃v9:Int,∃aa:List Int,∃ae:Nat,(s.t 7=vI x5/\s.t 8=vR 100019 ae/\s.t 9=vI v9/\s.h 100019=(ae,oW 5 1 enB aa))/\bX x5 m v9 aa=some r
 have e1:=@bX.eq_2
 unfold Aj at h
 exact sgo 33 [.tmp 6] Tryz.func390⟩
instance:bE 400 (∀p0 p1 r (h:rZ p0 p1=some r),Sc 400 [aX (M.aC.en p0),aX (M.aC.en p1)] [rB r]):=⟨λp0 p1 r h=>by
 unfold rZ at h
 simp only[EN]
 refine sgn 10 [.tmp 4] Tryz.func400 λbase wd => ?_
 refine sq (rn ?_)
 refine an (sq ?_)
 obtain⟨x1,h2,h⟩:=bind_some h
 refine rn1 (aIf p0.aI1 p1.aI1 (λz0 z1=>tC z0 z1) 492 [] (λz0 z1 r hr=>aH7 z0 z1 r hr) x1 h2) ?_
 refine an (rt ?_)
 cases h
 simp[Ret,TB,EN, *]⟩
instance:bE 401 (∀p0 p1 r (h:zF p0 p1=some r),Sc 401 [aX (M.bR.en p0),aX (M.bR.en p1)] [rB r]):=⟨λp0 p1 r h=>by unfold zF at h;exact sgo 24 [.tmp 4] Tryz.func401⟩
instance:bE 145 (∀p0 p1 r (h:Bh p0 p1=some r),Sc 145 [aX (M.aIz.en p0),aL enI p1] [(true,M.aIz.rs r.1),rI r.2.1,rB r.2.2]):=⟨λp0 p1 r h=>by unfold Bh at h;exact sgo 21 [.cell 4 105,.tmp 5,.tmp 6] Tryz.func145⟩
