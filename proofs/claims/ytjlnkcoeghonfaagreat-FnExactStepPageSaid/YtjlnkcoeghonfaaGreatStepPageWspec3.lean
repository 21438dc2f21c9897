/-
  Helper text. No conditions.
-/
import Derived.Test.YtjlnkcoeghonfaaGreatStepPageWspec2
set_option linter.all false
namespace Go.Proofs.YtjlnkcoeghonfaaGreat.gen
open Go Go.Sh
set_option maxRecDepth 20000
set_option maxHeartbeats 4000000
instance:aZ 342 (∀p0 r (h:mK p0=some r),Sc 342 [aX (M.aJb.en p0)] [(true,M.aJb.rs r)]):=⟨λp0 r h=>by
 have i1:=Ni [.b 3 2 7050000 75 3] λm s=>∃v4:Int,∃aa:List M.aD,∃ae:Nat,(s.t 1=vP 1 1 0/\s.t 2=vP 2 1 0/\s.t 3=vP 3 1 0/\s.t 4=vI v4/\s.h 1=(1,oX 70 (M.aJb.en p0))/\s.h 2=(1,W8)/\s.h 3=(1,oB 70 [cS p0.Name,cI p0.aJd,.row 7050000 ae,.row 100009 2])/\s.h 100009=(2,oW 382 2 M.aG.en p0.aJw)/\s.h 7050000=(ae,oW 75 3 M.aD.en aa))/\rC p0 m v4 aa=some r
 have e1:=@rC.eq_2
 unfold mK at h
 exact sgo 33 [.cell 2 70] Tryz.func342⟩
instance aCK:aZ 233 (∀p0 r (h:vX p0=some r),Sc 233 [aX (M.bL.en p0)] [(true,M.bL.rs r)]):=⟨λp0 r h=>by unfold vX at h;exact sgo 13 [.cell 2 72] Tryz.func233⟩
instance aBu:aZ 239 (∀p0 r (h:wD p0=some r),Sc 239 [aX (M.aE.en p0)] [(true,M.aE.rs r)]):=⟨λp0 r h=>by unfold wD at h;exact sgo 12 [.cell 2 82] Tryz.func239⟩
instance:aZ 109 (∀p0 r (h:Cz p0=some r),Sc 109 [aX (M.aJn.en p0)] [(true,M.aJn.rs r)]):=⟨λp0 r h=>by unfold Cz at h;exact sgo 15 [.cell 2 156] Tryz.func109⟩
instance:aZ 206 (∀p0 r (h:oR p0=some r),Sc 206 [aX (M.aD.en p0)] [rB r]):=⟨λp0 r h=>by
 have i1:=inv λm s=>∃v3:Int,(s.t 1=vP 1 1 0/\s.t 3=vI v3/\s.h 1=(1,oX 75 (M.aD.en p0)))/\iO p0 m v3=some r
 have e1:=@iO.eq_2
 unfold oR at h
 exact sgo 64 [.tmp 2] Tryz.func206⟩
instance:aZ 90 (∀p0 r (h:Bw p0=some r),Sc 90 [aX (M.aJn.en p0)] [rB r]):=⟨λp0 r h=>by
 have i1:=inv λm s=>∃v3:Int,(s.t 1=vP 1 1 0/\s.t 3=vI v3/\s.h 1=(1,oX 156 (M.aJn.en p0)))/\gO p0 m v3=some r
 have e1:=@gO.eq_2
 have i2:=inv λm s=>∃v4:Int,(s.t 1=vP 1 1 0/\s.t 4=vI v4/\s.h 1=(1,oX 156 (M.aJn.en p0)))/\jW p0 m v4=some r
 have e2:=@jW.eq_2
 unfold Bw at h
 exact sgo 79 [.tmp 2] Tryz.func90⟩
instance:aZ 320 (∀p0 r (h:yA p0=some r),Sc 320 [aX (M.aO.en p0)] [rB r]):=⟨λp0 r h=>by
 have i1:=inv λm s=>∃v3:Int,(s.t 1=vP 1 1 0/\s.t 3=vI v3/\s.h 1=(1,oX 66 (M.aO.en p0)))/\eT p0 m v3=some r
 have e1:=@eT.eq_2
 unfold yA at h
 exact sgo 53 [.tmp 2] Tryz.func320⟩
instance:aZ 577 (∀p0 p1 p2 r (h:Ee p0 p1 p2=some r),Sc 577 [aX (M.aJl.en p0),aX (M.aJl.en p1),aS p2] [rB r]):=⟨λp0 p1 p2 r h=>by unfold Ee at h;exact sgo 41 [.tmp 6] Tryz.func577⟩
instance:aZ 529 (∀p0 p1 r (h:CE p0 p1=some r),Sc 529 [aX (M.aD.en p0),aS p1] [rW 320 4 M.aJl.en r]):=⟨λp0 p1 r h=>by
 have i1:=Ni [.t 5 7050000 320 4] λm s=>∃v6:Int,∃aa:List M.aJl,∃ae:Nat,(s.t 1=vS p1/\s.t 2=vP 2 1 0/\s.t 5=vR 7050000 ae/\s.t 6=vI v6/\s.h 2=(1,oX 75 (M.aD.en p0))/\s.h 7050000=(ae,oW 320 4 M.aJl.en aa))/\lM p0 p1 m v6 aa=some r
 have e1:=@lM.eq_2
 have i2:=λ(v6:Int) (aa:List M.aJl) (ah:M.aJl) (ai:Int->Option (List M.aJl)) (ae:Nat)=>inv λm s=>∃af:Int,(s.t 1=vS p1/\s.t 2=vP 2 1 0/\s.t 5=vR 7050000 ae/\s.t 6=vI v6/\s.t 9=vI af/\s.h 2=(1,oX 75 (M.aD.en p0))/\s.h 7050000=(ae,oW 320 4 M.aJl.en aa))/\nP p1 aa ah ai m af=some r
 have e2:=@nP.eq_2
 unfold CE at h
 exact sgo 72 [.tmp 4] Tryz.func529⟩
instance:aZ 354 (∀p0 r (h:sV p0=some r),Sc 354 [aX (M.aM.en p0)] [rB r]):=⟨λp0 r h=>by
 have i1:=inv λm s=>∃v4:Int,(s.t 1=vP 1 1 0/\s.t 3=vI (List.length p0.aJ1:Int)/\s.t 4=vI v4/\s.h 1=(1,oX 78 (M.aM.en p0)))/\mH p0 m v4=some r
 have e1:=@mH.eq_2
 unfold sV at h
 exact sgo 60 [.tmp 2] Tryz.func354⟩
instance:aZ 243 (∀p0 r (h:tR p0=some r),Sc 243 [aX (M.aE.en p0)] [rB r]):=⟨λp0 r h=>by unfold tR at h;exact sgo 23 [.tmp 2] Tryz.func243⟩
instance:aZ 350 (∀p0 r (h:fZ p0=some r),Sc 350 [aX (M.aA.en p0)] [rW 5 1 enB r]):=⟨λp0 r h=>by
 have i1:=Ni [.t 3 7050000 5 1] λm s=>∃v4:Int,∃aa:List Int,∃ae:Nat,(s.t 1=vP 1 1 0/\s.t 3=vR 7050000 ae/\s.t 4=vI v4/\s.h 1=(1,oX 207 (M.aA.en p0))/\s.h 7050000=(ae,oW 5 1 enB aa))/\cY p0 m v4 aa=some r
 have e1:=@cY.eq_2
 unfold fZ at h
 exact sgo 38 [.tmp 2] Tryz.func350⟩
instance:aZ 445 (∀p0 r (h:uF p0=some r),Sc 445 [aX (M.aD.en p0)] [rI r]):=⟨λp0 r h=>by
 have i1:=inv λm s=>∃v3:Int,∃v4:Int,(s.t 1=vP 1 1 0/\s.t 3=vI v3/\s.t 4=vI v4/\s.h 1=(1,oX 75 (M.aD.en p0)))/\kV p0 m v3 v4=some r
 have e1:=@kV.eq_2
 unfold uF at h
 exact sgo 32 [.tmp 2] Tryz.func445⟩
instance:aZ 30 (∀p0 r (h:yM p0=some r),Sc 30 [aX (M.aJf.en p0)] [(true,M.aJf.rs r.1),(true,M.Ask.rs r.2)]):=⟨λp0 r h=>by
 have i1:=λ(x1:M.aJf)=>inv λm s=>∃aa:Int,∃ae:Int,∃r7:List Int,(s.t 2=vP 2 1 0/\s.t 3=vP 3 1 0/\s.t 4=vP 4 1 0/\s.h 2=(1,aCa)/\s.h 3=(1,ZX)/\s.h 4=(1,oB 89 [.row 100007 1,cI aa,.row 300007 1,cI ae,cB x1.aKT,cB x1.aKQ])/\s.h 100007=(1,oW 197 4 M.Instr.en x1.aJ5)/\s.h 300007=(1,oW 3 1 enI r7))/\dS x1 m aa ae r7=some r
 have e1:=@dS.eq_2
 unfold yM at h
 exact sgo 139 [.cell 2 89,.cell 3 102] Tryz.func30⟩
instance:aZ 339 (∀p0 p1 r (h:rF p0 p1=some r),Sc 339 [aX (M.aJj.en p0),aI p1] [rB r]):=⟨λp0 p1 r h=>by unfold rF at h;exact sgo 18 [.tmp 4] Tryz.func339⟩
instance:aZ 454 (∀p0 p1 r (h:uA p0 p1=some r),Sc 454 [aI p0,aL enI p1] [rI r]):=⟨λp0 p1 r h=>by unfold uA at h;exact sgo 13 [.tmp 4] Tryz.func454⟩
instance:aZ 455 (∀p0 p1 r (h:iI p0 p1=some r),Sc 455 [aI p0,aS p1] [rI r]):=⟨λp0 p1 r h=>by unfold iI at h;exact sgo 11 [.tmp 4] Tryz.func455⟩
instance:aZ 33 (∀p0 p1 p2 r (h:Bh p0 p1 p2=some r),Sc 33 [aX (M.bD.en p0),aS p1,aX (M.aJg.en p2)] [(true,M.bD.rs r.1),rB r.2]):=⟨λp0 p1 p2 r h=>by unfold Bh at h;exact sgo 43 [.cell 6 91,.tmp 7] Tryz.func33⟩
instance:aZ 351 (∀p0 p1 r (h:wY p0 p1=some r),Sc 351 [aI p0,aL enB p1] [rI r]):=⟨λp0 p1 r h=>by unfold wY at h;exact sgo 11 [.tmp 4] Tryz.func351⟩
instance:aZ 343 (∀p0 r (h:Cr p0=some r),Sc 343 [aL enB p0] [rW 58 1 (enL enB) r.1,rI r.2]):=⟨λp0 r h=>by
 have i1:=inv λm s=>∃v5:Int,∃aa:List (List Int),∃ae:Nat,(s.t 0=vL enB p0/\s.t 4=vR 100012 ae/\s.t 5=vI v5/\s.h 100012=(ae,oW 58 1 (enL enB) aa))/\sC p0 m v5 aa=some r
 have e1:=@sC.eq_2
 unfold Cr at h
 exact sgo 50 [.tmp 2,.tmp 3] Tryz.func343⟩
instance:aZ 581 (∀p0 p1 r (h:Fq p0 p1=some r),Sc 581 [aL enB p0,aI p1] [(true,M.aA.rs r.1),rI r.2.1,rB r.2.2]):=⟨λp0 p1 r h=>by
 have i1:=λ(x1:(Int×Int×Bool))=>Ni [.b 10 0 7050000 322 2] λm s=>∃v8:Int,∃v11:Int,∃aa:List M.Field,∃ae:Nat,(s.t 0=vL enB p0/\s.t 4=vP 4 1 0/\s.t 7=vI x1.1/\s.t 8=vI v8/\s.t 10=vP 10 1 0/\s.t 11=vI v11/\s.h 4=(1,oB 207 [.nil])/\s.h 10=(1,oB 207 [.row 7050000 ae])/\s.h 7050000=(ae,oW 322 2 M.Field.en aa))/\pX p0 x1 m v8 v11 aa=some r
 have e1:=@pX.eq_2
 unfold Fq at h
 exact sgo 72 [.cell 4 207,.tmp 5,.tmp 6] Tryz.func581⟩
instance:aZ 538 (∀p0 r (h:oJ p0=some r),Sc 538 [aL enB p0] [(true,M.aA.rs r.1),rB r.2]):=⟨λp0 r h=>by unfold oJ at h;exact sgo 23 [.cell 2 207,.tmp 3] Tryz.func538⟩
instance:aZ 347 (∀p0 r (h:Eo p0=some r),Sc 347 [aX (M.Op.en p0)] [rB r]):=⟨λp0 r h=>by unfold Eo at h;exact sgo 46 [.tmp 2] Tryz.func347⟩
instance:aZ 235 (∀p0 r (h:tL p0=some r),Sc 235 [aL M.Op.en p0] [rW 5 1 enB r]):=⟨λp0 r h=>by
 have i1:=Ni [.t 3 7050000 5 1] λm s=>∃v4:Int,∃aa:List Int,∃ae:Nat,(s.t 0=vL M.Op.en p0/\s.t 3=vR 7050000 ae/\s.t 4=vI v4/\s.h 7050000=(ae,oW 5 1 enB aa))/\oC p0 m v4 aa=some r
 have e1:=@oC.eq_2
 unfold tL at h
 exact sgo 64 [.tmp 2] Tryz.func235⟩
instance:aZ 355 (∀p0 p1 p2 r (h:iC p0 p1 p2=some r),Sc 355 [aX (M.aD.en p0),aX (M.Key.en p1),aX (M.aA.en p2)] [(true,M.aD.rs r.1),rB r.2]):=⟨λp0 p1 p2 r h=>by
 have i1:=λ(aa:M.aD)=>inv λm s=>∃v10:Int,(s.t 3=vP 3 1 0/\s.t 4=vP 4 1 0/\s.t 5=vP 5 1 0/\s.t 6=vP 6 1 0/\s.t 8=vP 8 1 0/\s.t 10=vI v10/\s.h 3=(1,oX 75 (M.aD.en p0))/\s.h 4=(1,oX 216 (M.Key.en p1))/\s.h 5=(1,oX 207 (M.aA.en p2))/\s.h 6=(1,oB 75 [cS (⟨#[]⟩:ByteArray),.nil,cI 0])/\s.h 8=(1,oB 75 [cS aa.Name,.row 200028 1,cI aa.aJ7])/\s.h 200028=(1,oW 320 4 M.aJl.en aa.aJe))/\oI p0 p1 p2 aa m v10=some r
 have e1:=@oI.eq_2
 unfold iC at h
 exact sgo 100 [.cell 6 75,.tmp 7] Tryz.func355⟩
instance:aZ 582 (∀p0 p1 r (h:Ae p0 p1=some r),Sc 582 [aX (M.Key.en p0),aX (M.dE.en p1)] [rB r]):=⟨λp0 p1 r h=>by unfold Ae at h;exact sgo 50 [.tmp 4] Tryz.func582⟩
instance:aZ 540 (∀p0 p1 r (h:pU p0 p1=some r),Sc 540 [aX (M.aD.en p0),aX (M.dE.en p1)] [(true,M.aD.rs r.1),rI r.2]):=⟨λp0 p1 r h=>by
 have i1:=Ni [.b 6 1 7050000 320 4] λm s=>∃v7:Int,∃aa:List M.aJl,∃ae:Nat,(s.t 2=vP 2 1 0/\s.t 3=vP 3 1 0/\s.t 4=vP 4 1 0/\s.t 6=vP 6 1 0/\s.t 7=vI v7/\s.h 2=(1,oX 75 (M.aD.en p0))/\s.h 3=(1,oX 550 (M.dE.en p1))/\s.h 4=(1,oB 75 [cS (⟨#[]⟩:ByteArray),.nil,cI 0])/\s.h 6=(1,oB 75 [cS p0.Name,.row 7050000 ae,cI p0.aJ7])/\s.h 7050000=(ae,oW 320 4 M.aJl.en aa))/\hH p0 p1 m v7 aa=some r
 have e1:=@hH.eq_2
 unfold pU at h
 exact sgo 53 [.cell 4 75,.tmp 5] Tryz.func540⟩
instance:aZ 120 (∀p0 p1 p2 r (h:mQ p0 p1 p2=some r),Sc 120 [aX (M.aA.en p0),aS p1,aI p2] [(true,M.aA.rs r.1),rB r.2]):=⟨λp0 p1 p2 r h=>by
 have i1:=λ(x1:M.aA)=>inv λm s=>∃v9:Int,(s.t 1=vS p1/\s.t 2=vI p2/\s.t 3=vP 3 1 0/\s.t 6=vP 6 1 0/\s.t 8=vP 8 1 0/\s.t 9=vI v9/\s.h 3=(1,oX 207 (M.aA.en p0))/\s.h 6=(1,oB 207 [.nil])/\s.h 8=(1,oB 207 [.row 100011 1])/\s.h 100011=(1,oW 322 2 M.Field.en x1.aJi))/\mE p0 p1 p2 x1 m v9=some r
 have e1:=@mE.eq_2
 unfold mQ at h
 exact sgo 78 [.cell 6 207,.tmp 7] Tryz.func120⟩
instance:aZ 236 (∀p0 p1 p2 r (h:zV p0 p1 p2=some r),Sc 236 [aL enB p0,aI p1,aL enB p2] [rW 5 1 enB r.1,rB r.2]):=⟨λp0 p1 p2 r h=>by unfold zV at h;exact sgo 29 [.tmp 6,.tmp 7] Tryz.func236⟩
instance:aZ 240 (∀p0 p1 p2 p3 r (h:sS p0 p1 p2 p3=some r),Sc 240 [aX (M.aM.en p0),aX (M.Key.en p1),aS p2,aI p3] [(true,M.aM.rs r.1),rB r.2]):=⟨λp0 p1 p2 p3 r h=>by unfold sS at h;exact sgo 40 [.cell 8 78,.tmp 9] Tryz.func240⟩
