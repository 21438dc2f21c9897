/-
  Helper text. No conditions.
-/
import Derived.Test.YtbpbocchokbggaaGreatUpdatesWimpl4
import Derived.Test.YtbpbocchokbggaaGreatUpdatesWimpl6
set_option linter.all false
namespace Go.Proofs.YtbpbocchokbggaaGreat.gen
open Go Go.Sh
set_option maxRecDepth 20000
set_option maxHeartbeats 4000000
instance:bE 183 (∀p0 r (h:cQ p0=some r),Sc 183 [aX (M.aA.en p0)] [(true,M.aA.rs r)]):=⟨λp0 r h=>by
 have i1:=E5 [.b 3 0 7050000 126 24] λm s=>∃v10:Int,∃aa:List M.aI3,∃ae:Nat,(s.t 2=vP 2 1 0/\s.t 3=vP 3 1 0/\s.t 8=vL M.aI3.en p0.aI4/\s.t 9=vI (List.length p0.aI4:Int)/\s.t 10=vI v10/\s.h 2=(1,oB 47 [.nil])/\s.h 3=(1,oB 47 [.row 7050000 ae])/\s.h 7050000=(ae,oW 126 24 M.aI3.en aa))/\iN p0 m v10 aa=some r
 have e1:=@iN.eq_2
 unfold cQ at h
 exact sgo 23 [.cell 2 47] Tryz.func183⟩
instance:bE 58 (∀p0 r (h:pJ p0=some r),Sc 58 [aX (M.World.en p0)] [(true,M.World.rs r)]):=⟨λp0 r h=>by
 have i1:=λ(x1:M.aA) (x3:(List M.bG)) (x5:M.aQ) (x7:M.aJD)=>E5 [.b 3 8 7050000 92 4] λm s=>∃ai:Int,∃aa:List M.aI7,∃ae:Nat,(s.t 1=vP 1 1 0/\s.t 2=vP 2 1 0/\s.t 3=vP 3 1 0/\s.t 27=vL M.aI7.en p0.aJL/\s.t 28=vI (List.length p0.aJL:Int)/\s.t 29=vI ai/\s.h 1=(1,oX 58 (M.World.en p0))/\s.h 2=(1,Q6)/\s.h 3=(1,oB 58 [cI p0.Now,cB p0.aJV,cI p0.aJA,.row 100011 1,.row 100015 1,cI p0.aJG,.row 100019 1,.row 100023 1,.row 7050000 ae,cL M.aJC.en p0.aJK])/\s.h 100011=(1,oW 126 24 M.aI3.en x1.aI4)/\s.h 100015=(1,oW 67 11 M.bG.en x3)/\s.h 100019=(1,oW 196 4 M.mV.en x5.aJJ)/\s.h 100023=(1,oW 199 3 M.AP.en x7.aJe)/\s.h 7050000=(ae,oW 92 4 M.aI7.en aa))/\iZ p0 x1 x3 x5 x7 m ai aa=some r
 have e1:=@iZ.eq_2
 have i2:=λ(x1:M.aA) (x3:(List M.bG)) (x5:M.aQ) (x7:M.aJD) (aa:List M.aI7) (ae:Nat)=>E5 [.b 3 9 7050100 205 5] λm s=>∃aj:Int,∃af:List M.aJC,∃ah:Nat,(s.t 2=vP 2 1 0/\s.t 3=vP 3 1 0/\s.t 43=vL M.aJC.en p0.aJK/\s.t 44=vI (List.length p0.aJK:Int)/\s.t 45=vI aj/\s.h 2=(1,Q6)/\s.h 3=(1,oB 58 [cI p0.Now,cB p0.aJV,cI p0.aJA,.row 100011 1,.row 100015 1,cI p0.aJG,.row 100019 1,.row 100023 1,.row 7050000 ae,.row 7050100 ah])/\s.h 100011=(1,oW 126 24 M.aI3.en x1.aI4)/\s.h 100015=(1,oW 67 11 M.bG.en x3)/\s.h 100019=(1,oW 196 4 M.mV.en x5.aJJ)/\s.h 100023=(1,oW 199 3 M.AP.en x7.aJe)/\s.h 7050000=(ae,oW 92 4 M.aI7.en aa)/\s.h 7050100=(ah,oW 205 5 M.aJC.en af))/\gG p0 x1 x3 x5 x7 aa m aj af=some r
 have e2:=@gG.eq_2
 unfold pJ at h
 exact sgo 58 [.cell 2 58] Tryz.func58⟩
instance:bE 335 (∀p0 r (h:yT p0=some r),Sc 335 [aX (M.aI2.en p0)] [rB r]):=⟨λp0 r h=>by
 have i1:=inv λm s=>∃aa:Int,(s.t 1=vP 1 1 0/\s.t 34=vL M.aD.en p0.aJF/\s.t 35=vI (List.length p0.aJF:Int)/\s.t 36=vI aa/\s.h 1=(1,oX 112 (M.aI2.en p0)))/\fB p0 m aa=some r
 have e1:=@fB.eq_2
 have i2:=inv λm s=>∃ae:Int,(s.t 1=vP 1 1 0/\s.t 62=vL M.aN.en p0.aJO/\s.t 63=vI (List.length p0.aJO:Int)/\s.t 64=vI ae/\s.h 1=(1,oX 112 (M.aI2.en p0)))/\fF p0 m ae=some r
 have e2:=@fF.eq_2
 unfold yT at h
 exact sgo 103 [.tmp 2] Tryz.func335⟩
instance:bE 561 (∀p0 r (h:vV p0=some r),Sc 561 [aX (M.aI2.en p0)] [rI r]):=⟨λp0 r h=>by
 have i1:=inv λm s=>∃v3:Int,∃v9:Int,(s.t 3=vI v3/\s.t 7=vL M.aD.en p0.aJF/\s.t 8=vI (List.length p0.aJF:Int)/\s.t 9=vI v9)/\iA p0 m v3 v9=some r
 have e1:=@iA.eq_2
 unfold vV at h
 exact sgo 19 [.tmp 2] Tryz.func561⟩
instance:bE 479 (∀p0 r (h:CD p0=some r),Sc 479 [aX (M.bR.en p0)] [rI r]):=⟨λp0 r h=>by unfold CD at h;exact sgo 10 [.tmp 2] Tryz.func479⟩
instance:bE 387 (∀p0 r (h:BP p0=some r),Sc 387 [aX (M.aI3.en p0)] [rI r]):=⟨λp0 r h=>by unfold BP at h;exact sgo 23 [.tmp 2] Tryz.func387⟩
instance:bE 247 (∀p0 r (h:sD p0=some r),Sc 247 [aX (M.aI3.en p0)] [rB r]):=⟨λp0 r h=>by unfold sD at h;exact sgo 50 [.tmp 2] Tryz.func247⟩
instance:bE 207 (∀p0 r (h:cW p0=some r),Sc 207 [aX (M.aA.en p0)] [rB r]):=⟨λp0 r h=>by
 have i1:=inv λm s=>∃v8:Int,(s.t 1=vP 1 1 0/\s.t 6=vL M.aI3.en p0.aI4/\s.t 7=vI (List.length p0.aI4:Int)/\s.t 8=vI v8/\s.h 1=(1,oX 47 (M.aA.en p0)))/\gL p0 m v8=some r
 have e1:=@gL.eq_2
 unfold cW at h
 exact sgo 36 [.tmp 2] Tryz.func207⟩
instance:bE 94 (∀p0 r (h:uP p0=some r),Sc 94 [aX (M.World.en p0)] [rB r]):=⟨λp0 r h=>by
 have i1:=inv λm s=>∃ae:Int,(s.t 1=vP 1 1 0/\s.t 54=vL M.bG.en p0.aJI/\s.t 55=vI (List.length p0.aJI:Int)/\s.t 56=vI ae/\s.h 1=(1,oX 58 (M.World.en p0)))/\fI p0 m ae=some r
 have e1:=@fI.eq_2
 have i2:=inv λm s=>∃aa:Int,(s.t 1=vP 1 1 0/\s.t 99=vL M.aI7.en p0.aJL/\s.t 100=vI (List.length p0.aJL:Int)/\s.t 101=vI aa/\s.h 1=(1,oX 58 (M.World.en p0)))/\kI p0 m aa=some r
 have e2:=@kI.eq_2
 unfold uP at h
 exact sgo 126 [.tmp 2] Tryz.func94⟩
instance:bE 249 (∀p0 p1 p2 r (h:xC p0 p1 p2=some r),Sc 249 [aX (M.aI7.en p0),aS p1,aI p2] [(true,M.aI8.rs r)]):=⟨λp0 p1 p2 r h=>by unfold xC at h;exact sgo 32 [.cell 6 189] Tryz.func249⟩
instance:bE 135 (∀p0 p1 p2 p3 r (h:vX p0 p1 p2 p3=some r),Sc 135 [aX (M.aC.en p0),aX (M.aI7.en p1),aI p2,aB p3] [(true,M.aC.rs r.1),rB r.2]):=⟨λp0 p1 p2 p3 r h=>by
 have i1:=E5 [.b 10 0 7050000 345 2] λm s=>∃v11:Bool,∃af:Int,∃aa:List M.aI5,∃ae:Nat,(s.t 2=vI p2/\s.t 4=vP 4 1 0/\s.t 5=vP 5 1 0/\s.t 8=vP 8 1 0/\s.t 10=vP 10 1 0/\s.t 11=vB v11/\s.t 31=vL enS p1.aJW/\s.t 32=vI (List.length p1.aJW:Int)/\s.t 33=vI af/\s.h 4=(1,oX 108 (M.aC.en p0))/\s.h 5=(1,oX 92 (M.aI7.en p1))/\s.h 8=(1,oB 108 [.nil])/\s.h 10=(1,oB 108 [.row 7050000 ae])/\s.h 7050000=(ae,oW 345 2 M.aI5.en aa))/\dW p0 p1 p2 m v11 af aa=some r
 have e1:=@dW.eq_2
 unfold vX at h
 exact sgo 57 [.cell 8 108,.tmp 9] Tryz.func135⟩
instance:bE 203 (∀p0 p1 r (h:uC p0 p1=some r),Sc 203 [aX (M.aI3.en p0),aX (M.aI3.en p1)] [(true,M.aI3.rs r.1),rB r.2]):=⟨λp0 p1 r h=>by unfold uC at h;exact sgo 18 [.cell 4 126,.tmp 5] Tryz.func203⟩
instance:bE 286 (∀p0 p1 p2 r (h:uG p0 p1 p2=some r),Sc 286 [aX (M.aI3.en p0),aX (M.aC.en p1),aX (M.aIz.en p2)] [(true,M.aI3.rs r.1),rB r.2]):=⟨λp0 p1 p2 r h=>by unfold uG at h;exact sgo 19 [.cell 6 126,.tmp 7] Tryz.func286⟩
instance:bE 66 (∀p0 p1 r (h:Ap p0 p1=some r),Sc 66 [aX (M.aA.en p0),aX (M.aI3.en p1)] [(true,M.aA.rs r.1),rB r.2]):=⟨λp0 p1 r h=>by
 have i1:=λ(x1:M.aA)=>inv λm s=>∃v8:Int,(s.t 2=vP 2 1 0/\s.t 3=vP 3 1 0/\s.t 4=vP 4 1 0/\s.t 6=vP 6 1 0/\s.t 8=vI v8/\s.h 2=(1,oX 47 (M.aA.en p0))/\s.h 3=(1,oX 126 (M.aI3.en p1))/\s.h 4=(1,oB 47 [.nil])/\s.h 6=(1,oB 47 [.row 100010 1])/\s.h 100010=(1,oW 126 24 M.aI3.en x1.aI4))/\mR p0 p1 x1 m v8=some r
 have e1:=@mR.eq_2
 unfold Ap at h
 exact sgo 60 [.cell 4 47,.tmp 5] Tryz.func66⟩
instance:bE 138 (∀p0 p1 p2 p3 r (h:gX p0 p1 p2 p3=some r),Sc 138 [aX (M.World.en p0),aX (M.aI3.en p1),aX (M.aC.en p2),aX (M.aIz.en p3)] [(true,M.World.rs r.1),rB r.2]):=⟨λp0 p1 p2 p3 r h=>by unfold gX at h;exact sgo 41 [.cell 8 58,.tmp 9] Tryz.func138⟩
theorem c28(p0 p1 p2 r)(h:rO p0 p1 p2=some r):Sc 28 [aX (M.World.en p0),aS p1,aS p2] [(true,M.World.rs r.1),rB r.2]:=by unfold rO at h;exact sgo 96 [.cell 6 58,.tmp 7] Tryz.func28
theorem aIv(p0 p1 r)(h:rG p0 p1=some r):Sc 260 [aX (M.aI3.en p0),aX (M.aI3.en p1)] [rB r]:=by unfold rG at h;exact sgo 59 [.tmp 4] Tryz.func260
theorem ZH(p0 p1 r)(h:uE p0 p1=some r):Sc 111 [aX (M.aA.en p0),aX (M.aA.en p1)] [rB r]:=by
 unfold uE at h
 simp only[EN]
 refine sgn 10 [.tmp 4] Tryz.func111 λbase wd => ?_
 refine sq (rn ?_)
 refine an (sq ?_)
 obtain⟨x1,h2,h⟩:=bind_some h
 refine rn1 (aIh p0.aI4 p1.aI4 (λj C=>rG j C) 260 [] (λj C r I=>aIv j C r I) x1 h2) ?_
 refine an (rt ?_)
 cases h
 simp[Ret,TB,EN, *]
theorem c21(p0 p1 r)(h:sY p0 p1=some r):Sc 21 [aX (M.World.en p0),aX (M.World.en p1)] [rB r]:=by
 unfold sY at h
 simp only[EN]
 refine sgn 77 [.tmp 4] Tryz.func21 λbase wd => ?_
 refine sq (rn ?_)
 refine an (sq ?_)
 rcases C1 (p0.Now==p1.Now)with b1 | b1
 ·replace h:=bY b1 h;refine rgo ?_;refine ec 20 ?_;refine ec 20 ?_;refine ec 20 ?_;refine ez ?_;refine an (rt ?_);cases h;simp[Ret,TB,EN, *]
 replace h:=bZ b1 h
 rcases C1 (p0.aJV==p1.aJV)with b2 | b2
 ·replace h:=bY b2 h;refine rgo ?_;refine ec 20 ?_;refine ec 20 ?_;refine ec 20 ?_;refine ez ?_;refine an (rt ?_);cases h;simp[Ret,TB,EN, *]
 replace h:=bZ b2 h
 rcases C1 (p0.aJA==p1.aJA)with b3 | b3
 ·replace h:=bY b3 h;refine rgo ?_;refine ec 20 ?_;refine ec 20 ?_;refine ec 20 ?_;refine ez ?_;refine an (rt ?_);cases h;simp[Ret,TB,EN, *]
 replace h:=bZ b3 h
 obtain⟨x4,h5,h⟩:=bind_some h
 rcases C1 x4 with b6 | b6
 ·replace h:=bY b6 h;refine rgo ?_;refine ec 20 ?_;refine ec1 20 (ZH _ _ _ h5) ?_;refine ec 20 ?_;refine ez ?_;refine an (rt ?_);cases h;simp[Ret,TB,EN, *]
 replace h:=bZ b6 h
 obtain⟨x7,h8,h⟩:=bind_some h
 rcases C1 x7 with b9 | b9
 ·replace h:=bY b9 h;refine rgo ?_;refine ec 20 ?_;refine ec2 20 (ZH _ _ _ h5) (aAz p0.aJI p1.aJI (λj C=>gS j C) 113 [] (λj C r I=>aA2 j C r I) x7 h8) ?_;refine ec 20 ?_;refine ez ?_;refine an (rt ?_);cases h;simp[Ret,TB,EN, *]
 replace h:=bZ b9 h
 rcases C1 (p0.aJG==p1.aJG)with ae | ae
 ·replace h:=bY ae h;refine rgo ?_;refine ec 20 ?_;refine ec2 20 (ZH _ _ _ h5) (aAz p0.aJI p1.aJI (λj C=>gS j C) 113 [] (λj C r I=>aA2 j C r I) x7 h8) ?_;refine ec 20 ?_;refine ez ?_;refine an (rt ?_);cases h;simp[Ret,TB,EN, *]
 replace h:=bZ ae h
 obtain⟨ao,J,h⟩:=bind_some h
 rcases C1 ao with af | af
 ·replace h:=bY af h;refine rgo ?_;refine ec 20 ?_;refine ec2 20 (ZH _ _ _ h5) (aAz p0.aJI p1.aJI (λj C=>gS j C) 113 [] (λj C r I=>aA2 j C r I) x7 h8) ?_;refine ec1 20 (aB7 _ _ _ J) ?_;refine ez ?_;refine an (rt ?_);cases h;simp[Ret,TB,EN, *]
 replace h:=bZ af h
 obtain⟨aq,U,h⟩:=bind_some h
 rcases C1 aq with ai | ai
 ·replace h:=bY ai h;refine rgo ?_;refine ec 20 ?_;refine ec2 20 (ZH _ _ _ h5) (aAz p0.aJI p1.aJI (λj C=>gS j C) 113 [] (λj C r I=>aA2 j C r I) x7 h8) ?_;refine ec2 20 (aB7 _ _ _ J) (aC8 _ _ _ U) ?_;refine ez ?_;refine an (rt ?_);cases h;simp[Ret,TB,EN, *]
 replace h:=bZ ai h
 obtain⟨aj,al,h⟩:=bind_some h
 rcases C1 aj with ak | ak
 ·replace h:=bY ak h;refine rgo ?_;refine ec 20 ?_;refine ec2 20 (ZH _ _ _ h5) (aAz p0.aJI p1.aJI (λj C=>gS j C) 113 [] (λj C r I=>aA2 j C r I) x7 h8) ?_;refine ec2 20 (aB7 _ _ _ J) (aC8 _ _ _ U) ?_;refine ez1 (aHi p0.aJL p1.aJL (λj C=>rA j C) 117 [] (λj C r I=>aDo j C r I) aj al) ?_;refine an (rt ?_);cases h;simp[Ret,TB,EN, *]
 replace h:=bZ ak h
 obtain⟨ar,av,h⟩:=bind_some h
 refine rgo ?_
 refine ec 20 ?_
 refine ec2 20 (ZH _ _ _ h5) (aAz p0.aJI p1.aJI (λj C=>gS j C) 113 [] (λj C r I=>aA2 j C r I) x7 h8) ?_
 refine ec2 20 (aB7 _ _ _ J) (aC8 _ _ _ U) ?_
 refine ez2 (aHi p0.aJL p1.aJL (λj C=>rA j C) 117 [] (λj C r I=>aDo j C r I) aj al) (aIg p0.aJK p1.aJK (λj C=>rP j C) 119 [] (λj C r I=>aII j C r I) ar av) ?_
 refine an (rt ?_)
 cases h
 simp[Ret,TB,EN, *]
theorem c32(p0 p1 p2 r)(h:nQ p0 p1 p2=some r):Sc 32 [aX (M.World.en p0),aS p1,aS p2] [(true,M.World.rs r.1),rB r.2]:=by unfold nQ at h;exact sgo 63 [.cell 6 58,.tmp 7] Tryz.func32
