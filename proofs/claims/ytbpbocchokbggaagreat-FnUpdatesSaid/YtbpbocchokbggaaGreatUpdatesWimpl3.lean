/-
  Helper text. No conditions.
-/
import Derived.Test.YtbpbocchokbggaaGreatUpdatesWimpl2
set_option linter.all false
namespace Go.Proofs.YtbpbocchokbggaaGreat.gen
open Go Go.Sh
set_option maxRecDepth 20000
set_option maxHeartbeats 4000000
instance aAN:bE 281 (∀p0 r (h:bB p0=some r),Sc 281 [aX (M.aC.en p0)] [(true,M.aC.rs r)]):=⟨λp0 r h=>by
 have i1:=E5 [.b 3 0 7050100 345 2] λm s=>∃aj:Int,∃ah:List M.aI5,∃aa:Nat,(s.t 2=vP 2 1 0/\s.t 3=vP 3 1 0/\s.t 11=vL M.aI5.en p0.aI1/\s.t 12=vI (List.length p0.aI1:Int)/\s.t 13=vI aj/\s.h 2=(1,oB 108 [.nil])/\s.h 3=(1,oB 108 [.row 7050100 aa])/\s.h 7050100=(aa,oW 345 2 M.aI5.en ah))/\eU p0 m aj ah=some r
 have e1:=@eU.eq_2
 have i2:=λ(aj:Int) (ah:List M.aI5) (ak:M.aI5) (al:Int->List M.aJE->Option M.aC) (s1:St) (aa:Nat)=>E5 [.b 6 1 7050000 351 7] λm s=>∃ai:Int,∃ae:List M.aJE,∃af:Nat,(s.t 2=vP 2 1 0/\s.t 3=vP 3 1 0/\s.t 6=vP 6 ((s1.h 6).1+1) 0/\s.t 11=vL M.aI5.en p0.aI1/\s.t 12=vI (List.length p0.aI1:Int)/\s.t 13=vI aj/\s.t 21=vL M.aJE.en ak.aJB/\s.t 22=vI (List.length ak.aJB:Int)/\s.t 23=vI ai/\s.h 2=(1,oB 108 [.nil])/\s.h 3=(1,oB 108 [.row 7050100 aa])/\s.h 6=((s1.h 6).1+1,oB 345 [cI ak.aI0,.row 7050000 af])/\s.h 7050000=(af,oW 351 7 M.aJE.en ae)/\s.h 7050100=(aa,oW 345 2 M.aI5.en ah))/\hY ak al m ai ae=some r
 have e2:=@hY.eq_2
 unfold bB at h
 exact sgo 46 [.cell 2 108] Tryz.func281⟩
instance:bE 326 (∀p0 r (h:tP p0=some r),Sc 326 [aX (M.aD.en p0)] [(true,M.aD.rs r)]):=⟨λp0 r h=>by
 have i1:=E5 [.b 3 1 7050000 260 4] λm s=>∃af:Int,∃aa:List M.aJN,∃ae:Nat,(s.t 2=vP 2 1 0/\s.t 3=vP 3 1 0/\s.t 12=vL M.aJN.en p0.aI6/\s.t 13=vI (List.length p0.aI6:Int)/\s.t 14=vI af/\s.h 2=(1,oB 117 [cS (⟨#[]⟩:ByteArray),.nil,cI 0])/\s.h 3=(1,oB 117 [cS p0.Name,.row 7050000 ae,cI p0.aJa])/\s.h 7050000=(ae,oW 260 4 M.aJN.en aa))/\mN p0 m af aa=some r
 have e1:=@mN.eq_2
 unfold tP at h
 exact sgo 27 [.cell 2 117] Tryz.func326⟩
instance:bE 184 (∀p0 r (h:Am p0=some r),Sc 184 [aL M.bG.en p0] [rW 67 11 M.bG.en r]):=⟨λp0 r h=>by
 have i1:=inv λm s=>∃v9:Int,∃r6:List M.bG,∃u6:Nat,(s.t 3=vR 100006 u6/\s.t 7=vL M.bG.en p0/\s.t 8=vI (List.length p0:Int)/\s.t 9=vI v9/\s.h 100006=(u6,oW 67 11 M.bG.en r6))/\mW p0 m v9 r6=some r
 have e1:=@mW.eq_2
 unfold Am at h
 exact sgo 20 [.tmp 2] Tryz.func184⟩
instance:bE 59 (∀p0 p1 p2 r (h:gR p0 p1 p2=some r),Sc 59 [aX (M.World.en p0),aS p1,aS p2] [(true,M.aI3.ra r.1),rB r.2]):=⟨λp0 p1 p2 r h=>by unfold gR at h;exact sgo 23 [.cell 6 126,.tmp 7] Tryz.func59⟩
instance:bE 98 (∀p0 p1 r (h:CM p0 p1=some r),Sc 98 [aX (M.World.en p0),aS p1] [(true,M.aI7.ra r)]):=⟨λp0 p1 r h=>by unfold CM at h;exact sgo 23 [.cell 4 92] Tryz.func98⟩
instance aDO:bE 345 (∀p0 r (h:cX p0=some r),Sc 345 [aS p0] [rB r]):=⟨λp0 r h=>by unfold cX at h;exact sgo 5 [.tmp 2] Tryz.func345⟩
instance:bE 476 (∀p0 p1 r (h:sS p0 p1=some r),Sc 476 [aX (M.Key.en p0),aX (M.Key.en p1)] [rI r]):=⟨λp0 p1 r h=>by unfold sS at h;exact sgo 36 [.tmp 4] Tryz.func476⟩
instance:bE 528 (∀p0 p1 r (h:oK p0 p1=some r),Sc 528 [aX (M.aE.en p0),aS p1] [rI r.1,rB r.2]):=⟨λp0 p1 r h=>by unfold oK at h;exact sgo 18 [.tmp 4,.tmp 5] Tryz.func528⟩
instance:bE 349 (∀p0 r (h:Ax p0=some r),Sc 349 [aX (M.Key.en p0)] [rW 5 1 enB r]):=⟨λp0 r h=>by
 have i1:=inv λm s=>∃v4:Int,∃aa:List Int,∃ae:Nat,(s.t 1=vP 1 1 0/\s.t 3=vR 100012 ae/\s.t 4=vI v4/\s.h 1=(1,oX 136 (M.Key.en p0))/\s.h 100012=(ae,oW 5 1 enB aa))/\gH p0 m v4 aa=some r
 have e1:=@gH.eq_2
 unfold Ax at h
 exact sgo 34 [.tmp 2] Tryz.func349⟩
instance:bE 351 (∀p0 p1 r (h:yA p0 p1=some r),Sc 351 [aL enB p0,aL enB p1] [rW 5 1 enB r]):=⟨λp0 p1 r h=>by unfold yA at h;exact sgo 11 [.tmp 4] Tryz.func351⟩
instance:bE 381 (∀p0 r (h:yV p0=some r),Sc 381 [aS p0] [rB r]):=⟨λp0 r h=>by unfold yV at h;exact sgo 5 [.tmp 2] Tryz.func381⟩
instance:bE 389 (∀p0 p1 r (h:BR p0 p1=some r),Sc 389 [aX (M.aI7.en p0),aS p1] [rB r]):=⟨λp0 p1 r h=>by unfold BR at h;exact sgo 9 [.tmp 4] Tryz.func389⟩
instance:bE 446 (∀p0 r (h:Es p0=some r),Sc 446 [aL enI p0] [rI r]):=⟨λp0 r h=>by
 have i1:=inv λm s=>∃v3:Int,∃v8:Int,(s.t 3=vI v3/\s.t 6=vL enI p0/\s.t 7=vI (List.length p0:Int)/\s.t 8=vI v8)/\yO p0 m v3 v8=some r
 have e1:=@yO.eq_2
 unfold Es at h
 exact sgo 21 [.tmp 2] Tryz.func446⟩
instance:bE 609 (∀p0 p1 r (h:sH p0 p1=some r),Sc 609 [aX (M.aI8.en p0),aX (M.aI8.en p1)] [rB r]):=⟨λp0 p1 r h=>by unfold sH at h;exact sgo 38 [.tmp 4] Tryz.func609⟩
theorem aIH(p0 p1 r)(h:vD p0 p1=some r):Sc 406 [aX (M.aJN.en p0),aX (M.aJN.en p1)] [rB r]:=by unfold vD at h;exact sgo 17 [.tmp 4] Tryz.func406
instance:bE 494 (∀p0 p1 r (h:zU p0 p1=some r),Sc 494 [aX (M.aJR.en p0),aX (M.aJR.en p1)] [rB r]):=⟨λp0 p1 r h=>by unfold zU at h;exact sgo 24 [.tmp 4] Tryz.func494⟩
theorem aA2(p0 p1 r)(h:gS p0 p1=some r):Sc 113 [aX (M.bG.en p0),aX (M.bG.en p1)] [rB r]:=by unfold gS at h;exact sgo 45 [.tmp 4] Tryz.func113
instance:bE 25 (∀p0 p1 p2 r (h:BO p0 p1 p2=some r),Sc 25 [aX (M.World.en p0),aS p1,aS p2] [rW 67 11 M.bG.en r]):=⟨λp0 p1 p2 r h=>by
 have i1:=inv λm s=>∃aa:Int,∃ae:List M.bG,∃af:Nat,(s.t 1=vS p1/\s.t 2=vS p2/\s.t 7=vR 100010 af/\s.t 12=vL M.bG.en p0.aJI/\s.t 13=vI (List.length p0.aJI:Int)/\s.t 14=vI aa/\s.h 100010=(af,oW 67 11 M.bG.en ae))/\kG p0 p1 p2 m aa ae=some r
 have e1:=@kG.eq_2
 unfold BO at h
 exact sgo 35 [.tmp 6] Tryz.func25⟩
instance:bE 150 (∀p0 p1 p2 p3 r (h:zV p0 p1 p2 p3=some r),Sc 150 [aX (M.aC.en p0),aI p1,aS p2,aS p3] [(true,M.aI8.rs r.1),rB r.2]):=⟨λp0 p1 p2 p3 r h=>by unfold zV at h;exact sgo 40 [.cell 8 189,.tmp 9] Tryz.func150⟩
