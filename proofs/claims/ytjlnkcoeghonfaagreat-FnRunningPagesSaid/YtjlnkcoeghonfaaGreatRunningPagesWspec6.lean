/-
  Helper text. No conditions.
-/
import Derived.Test.YtjlnkcoeghonfaaGreatRunningPagesWspec3
import Derived.Test.YtjlnkcoeghonfaaGreatRunningPagesWspec4
set_option linter.all false
namespace Go.Proofs.YtjlnkcoeghonfaaGreat.gen
open Go Go.Sh Tryz
set_option maxRecDepth 20000
set_option maxHeartbeats 4000000
instance aFH:bK 239 (∀p0 r (h:yG p0=some r),Sc 239 [aX (M.aG.en p0)] [(true,M.aG.rs r)]):=⟨λp0 r h=>by unfold yG at h;exact sgo 12 [.cell 2 82] func239⟩
instance:bK 206 (∀p0 r (h:pH p0=some r),Sc 206 [aX (M.aE.en p0)] [rB r]):=⟨λp0 r h=>by
 have i1:=inv λm s=>∃v3:Int,(s.t 1=vP 1 1 0/\s.t 3=vI v3/\s.h 1=(1,oX 75 (M.aE.en p0)))/\mA p0 m v3=some r
 have e1:=@mA.eq_2
 unfold pH at h
 exact sgo 64 [.tmp 2] func206⟩
instance:bK 90 (∀p0 r (h:uS p0=some r),Sc 90 [aX (M.aLj.en p0)] [rB r]):=⟨λp0 r h=>by
 have i1:=inv λm s=>∃v3:Int,(s.t 1=vP 1 1 0/\s.t 3=vI v3/\s.h 1=(1,oX 156 (M.aLj.en p0)))/\kL p0 m v3=some r
 have e1:=@kL.eq_2
 have i2:=inv λm s=>∃v4:Int,(s.t 1=vP 1 1 0/\s.t 4=vI v4/\s.h 1=(1,oX 156 (M.aLj.en p0)))/\mK p0 m v4=some r
 have e2:=@mK.eq_2
 unfold uS at h
 exact sgo 79 [.tmp 2] func90⟩
instance:bK 354 (∀p0 r (h:lF p0=some r),Sc 354 [aX (M.aN.en p0)] [rB r]):=⟨λp0 r h=>by
 have i1:=inv λm s=>∃v4:Int,(s.t 1=vP 1 1 0/\s.t 3=vI (List.length p0.aLl:Int)/\s.t 4=vI v4/\s.h 1=(1,oX 78 (M.aN.en p0)))/\pO p0 m v4=some r
 have e1:=@pO.eq_2
 unfold lF at h
 exact sgo 60 [.tmp 2] func354⟩
instance:bK 243 (∀p0 r (h:rU p0=some r),Sc 243 [aX (M.aG.en p0)] [rB r]):=⟨λp0 r h=>by unfold rU at h;exact sgo 23 [.tmp 2] func243⟩
instance:bK 350 (∀p0 r (h:iL p0=some r),Sc 350 [aX (M.aF.en p0)] [rW 5 1 enB r]):=⟨λp0 r h=>by
 have i1:=G8 [.t 3 7050000 5 1] λm s=>∃v4:Int,∃aa:List Int,∃ae:Nat,(s.t 1=vP 1 1 0/\s.t 3=vR 7050000 ae/\s.t 4=vI v4/\s.h 1=(1,oX 207 (M.aF.en p0))/\s.h 7050000=(ae,oW 5 1 enB aa))/\dP p0 m v4 aa=some r
 have e1:=@dP.eq_2
 unfold iL at h
 exact sgo 38 [.tmp 2] func350⟩
instance:bK 445 (∀p0 r (h:Au p0=some r),Sc 445 [aX (M.aE.en p0)] [rI r]):=⟨λp0 r h=>by
 have i1:=inv λm s=>∃v3:Int,∃v4:Int,(s.t 1=vP 1 1 0/\s.t 3=vI v3/\s.t 4=vI v4/\s.h 1=(1,oX 75 (M.aE.en p0)))/\nU p0 m v3 v4=some r
 have e1:=@nU.eq_2
 unfold Au at h
 exact sgo 32 [.tmp 2] func445⟩
instance:bK 566 (∀p0 r (h:rX p0=some r),Sc 566 [aI p0] [(true,M.aN.rs r.1),rB r.2]):=⟨λp0 r h=>by unfold rX at h;exact sgo 12 [.cell 2 78,.tmp 3] func566⟩
instance:bK 596 (∀p0 r (h:C9 p0=some r),Sc 596 [aL M.aZ.en p0] [rB r]):=⟨λp0 r h=>by
 have i1:=inv λm s=>∃v3:Int,(s.t 0=vL M.aZ.en p0/\s.t 3=vI v3)/\pW p0 m v3=some r
 have e1:=@pW.eq_2
 unfold C9 at h
 exact sgo 21 [.tmp 2] func596⟩
instance:bK 567 (∀p0 r (h:BM p0=some r),Sc 567 [aL M.aZ.en p0] [(true,M.aLX.rs r)]):=⟨λp0 r h=>by unfold BM at h;exact sgo 15 [.cell 2 89] func567⟩
instance:bK 454 (∀p0 p1 r (h:Ap p0 p1=some r),Sc 454 [aI p0,aL enI p1] [rI r]):=⟨λp0 p1 r h=>by unfold Ap at h;exact sgo 13 [.tmp 4] func454⟩
instance:bK 455 (∀p0 p1 r (h:lT p0 p1=some r),Sc 455 [aI p0,aS p1] [rI r]):=⟨λp0 p1 r h=>by unfold lT at h;exact sgo 11 [.tmp 4] func455⟩
instance:bK 30 (∀p0 r (h:BV p0=some r),Sc 30 [aX (M.aLX.en p0)] [(true,M.aLX.rs r.1),(true,M.Ask.rs r.2)]):=⟨λp0 r h=>by
 have i1:=λ(x1:M.aLX)=>inv λm s=>∃aa:Int,∃ae:Int,∃r7:List Int,(s.t 2=vP 2 1 0/\s.t 3=vP 3 1 0/\s.t 4=vP 4 1 0/\s.h 2=(1,aFn)/\s.h 3=(1,aC4)/\s.h 4=(1,oB 89 [.row 100007 1,cI aa,.row 300007 1,cI ae,cB x1.aMJ,cB x1.aMI])/\s.h 100007=(1,oW 197 4 M.aZ.en x1.aLz)/\s.h 300007=(1,oW 3 1 enI r7))/\eR x1 m aa ae r7=some r
 have e1:=@eR.eq_2
 unfold BV at h
 exact sgo 139 [.cell 2 89,.cell 3 102] func30⟩
instance:bK 581 (∀p0 p1 r (h:Gb p0 p1=some r),Sc 581 [aL enB p0,aI p1] [(true,M.aF.rs r.1),rI r.2.1,rB r.2.2]):=⟨λp0 p1 r h=>by
 have i1:=λ(x1:(Int×Int×Bool))=>G8 [.b 10 0 7050000 322 2] λm s=>∃v8:Int,∃v11:Int,∃aa:List M.aR,∃ae:Nat,(s.t 0=vL enB p0/\s.t 4=vP 4 1 0/\s.t 7=vI x1.1/\s.t 8=vI v8/\s.t 10=vP 10 1 0/\s.t 11=vI v11/\s.h 4=(1,oB 207 [.nil])/\s.h 10=(1,oB 207 [.row 7050000 ae])/\s.h 7050000=(ae,oW 322 2 M.aR.en aa))/\xE p0 x1 m v8 v11 aa=some r
 have e1:=@xE.eq_2
 unfold Gb at h
 exact sgo 72 [.cell 4 207,.tmp 5,.tmp 6] func581⟩
instance:bK 538 (∀p0 r (h:tP p0=some r),Sc 538 [aL enB p0] [(true,M.aF.rs r.1),rB r.2]):=⟨λp0 r h=>by unfold tP at h;exact sgo 23 [.cell 2 207,.tmp 3] func538⟩
instance:bK 347 (∀p0 r (h:Fg p0=some r),Sc 347 [aX (M.gN.en p0)] [rB r]):=⟨λp0 r h=>by unfold Fg at h;exact sgo 46 [.tmp 2] func347⟩
instance:bK 235 (∀p0 r (h:Ae p0=some r),Sc 235 [aL M.gN.en p0] [rW 5 1 enB r]):=⟨λp0 r h=>by
 have i1:=G8 [.t 3 7050000 5 1] λm s=>∃v4:Int,∃aa:List Int,∃ae:Nat,(s.t 0=vL M.gN.en p0/\s.t 3=vR 7050000 ae/\s.t 4=vI v4/\s.h 7050000=(ae,oW 5 1 enB aa))/\tC p0 m v4 aa=some r
 have e1:=@tC.eq_2
 unfold Ae at h
 exact sgo 64 [.tmp 2] func235⟩
instance:bK 355 (∀p0 p1 p2 r (h:fG p0 p1 p2=some r),Sc 355 [aX (M.aE.en p0),aX (M.bD.en p1),aX (M.aF.en p2)] [(true,M.aE.rs r.1),rB r.2]):=⟨λp0 p1 p2 r h=>by
 have i1:=λ(aa:M.aE)=>inv λm s=>∃v10:Int,(s.t 3=vP 3 1 0/\s.t 4=vP 4 1 0/\s.t 5=vP 5 1 0/\s.t 6=vP 6 1 0/\s.t 8=vP 8 1 0/\s.t 10=vI v10/\s.h 3=(1,oX 75 (M.aE.en p0))/\s.h 4=(1,oX 216 (M.bD.en p1))/\s.h 5=(1,oX 207 (M.aF.en p2))/\s.h 6=(1,oB 75 [cS (⟨#[]⟩:ByteArray),.nil,cI 0])/\s.h 8=(1,oB 75 [cS aa.Name,.row 200028 1,cI aa.aLx])/\s.h 200028=(1,oW 320 4 M.aLo.en aa.aLV))/\tO p0 p1 p2 aa m v10=some r
 have e1:=@tO.eq_2
 unfold fG at h
 exact sgo 100 [.cell 6 75,.tmp 7] func355⟩
instance:bK 582 (∀p0 p1 r (h:Cl p0 p1=some r),Sc 582 [aX (M.bD.en p0),aX (M.gE.en p1)] [rB r]):=⟨λp0 p1 r h=>by unfold Cl at h;exact sgo 50 [.tmp 4] func582⟩
instance:bK 540 (∀p0 p1 r (h:vY p0 p1=some r),Sc 540 [aX (M.aE.en p0),aX (M.gE.en p1)] [(true,M.aE.rs r.1),rI r.2]):=⟨λp0 p1 r h=>by
 have i1:=G8 [.b 6 1 7050000 320 4] λm s=>∃v7:Int,∃aa:List M.aLo,∃ae:Nat,(s.t 2=vP 2 1 0/\s.t 3=vP 3 1 0/\s.t 4=vP 4 1 0/\s.t 6=vP 6 1 0/\s.t 7=vI v7/\s.h 2=(1,oX 75 (M.aE.en p0))/\s.h 3=(1,oX 550 (M.gE.en p1))/\s.h 4=(1,oB 75 [cS (⟨#[]⟩:ByteArray),.nil,cI 0])/\s.h 6=(1,oB 75 [cS p0.Name,.row 7050000 ae,cI p0.aLx])/\s.h 7050000=(ae,oW 320 4 M.aLo.en aa))/\lB p0 p1 m v7 aa=some r
 have e1:=@lB.eq_2
 unfold vY at h
 exact sgo 53 [.cell 4 75,.tmp 5] func540⟩
instance:bK 240 (∀p0 p1 p2 p3 r (h:lD p0 p1 p2 p3=some r),Sc 240 [aX (M.aN.en p0),aX (M.bD.en p1),aS p2,aI p3] [(true,M.aN.rs r.1),rB r.2]):=⟨λp0 p1 p2 p3 r h=>by unfold lD at h;exact sgo 40 [.cell 8 78,.tmp 9] func240⟩
instance aDI:bK 507 (∀p0 r (h:uC p0=some r),Sc 507 [(false,[.ptr [.sl (List.map enB p0.b),.int .i64 p0.i,.int .i64 p0.h]])] [(false,[.edit (.lend 256 [.int .i64 r.1,.int .i64 r.2.1])]),rS r.2.2]):=⟨λp0 r h=>by
 unfold uC at h
 simp only[EN]
 refine sgB 6 [.tmp 2] func507 λbase wd B0 u0 hw0=> ?_
 refine cY (J:=λs=>s.t 0=vP 7059000 1 0/\s.h 7059000=(1,oB 256 [.old B0 (.sl (List.map enB p0.b)) (some u0),cI p0.i,cI p0.h])/\True) ?_ ?_
 ·and_intros<;>(try simp only[LN,jI,jJ])<;>rfl
 rintro s1 f2
 exact sgX⟩
instance:bK 605 (∀p0 r (h:CP p0=some r),Sc 605 [(false,[.ptr [.sl (List.map enB p0.b),.int .i64 p0.i,.int .i64 p0.h]])] [(false,[.edit (.lend 256 [.int .i64 r.1,.int .i64 r.2.1])]),rI r.2.2]):=⟨λp0 r h=>by
 unfold CP at h
 simp only[EN]
 refine sgB 8 [.tmp 2] func605 λbase wd B0 u0 hw0=> ?_
 refine cY (J:=λs=>s.t 0=vP 7059000 1 0/\s.h 7059000=(1,oB 256 [.old B0 (.sl (List.map enB p0.b)) (some u0),cI p0.i,cI p0.h])/\True) ?_ ?_
 ·and_intros<;>(try simp only[LN,jI,jJ])<;>rfl
 rintro s1 f2
 exact sgX⟩
instance:bK 574 (∀p0 r (h:FJ p0=some r),Sc 574 [(false,[.ptr [.sl (List.map enB p0.b),.int .i64 p0.i,.int .i64 p0.h]])] [(false,[.edit (.lend 256 [.int .i64 r.1,.int .i64 r.2.1])]),(true,M.bD.rs r.2.2)]):=⟨λp0 r h=>by
 unfold FJ at h
 simp only[EN]
 refine sgB 22 [.cell 2 216] func574 λbase wd B0 u0 hw0=> ?_
 refine cY (J:=λs=>s.t 0=vP 7059000 1 0/\s.h 7059000=(1,oB 256 [.old B0 (.sl (List.map enB p0.b)) (some u0),cI p0.i,cI p0.h])/\True) ?_ ?_
 ·and_intros<;>(try simp only[LN,jI,jJ])<;>rfl
 rintro s1 f2
 exact sgX⟩
instance:bK 616 (∀p0 p1 r (h:dS p0 p1=some r),Sc 616 [aX (M.aN.en p0),aI p1] [(true,M.aN.rs r.1),rI r.2]):=⟨λp0 p1 r h=>by
 have i1:=λ(x1:M.aN)=>inv λm s=>∃v7:Int,(s.t 1=vI p1/\s.t 2=vP 2 1 0/\s.t 4=vP 4 1 0/\s.t 6=vP 6 1 0/\s.t 7=vI v7/\s.h 2=(1,oX 78 (M.aN.en p0))/\s.h 4=(1,oB 78 [cI 0,cI 0,.nil])/\s.h 6=(1,oB 78 [cI x1.aLZ,cI x1.aL2,.row 300009 1])/\s.h 300009=(1,oW 269 7 M.bR.en x1.aLl))/\sP p0 p1 x1 m v7=some r
 have e1:=@sP.eq_2
 unfold dS at h
 exact sgo 40 [.cell 4 78,.tmp 5] func616⟩
