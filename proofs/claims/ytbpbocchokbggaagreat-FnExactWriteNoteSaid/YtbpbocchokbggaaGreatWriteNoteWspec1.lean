/-
  Helper text. No conditions.
-/
import Derived.Test.YtbpbocchokbggaaGreatWriteNoteTi
set_option linter.all false
namespace Go.Proofs.YtbpbocchokbggaaGreat.gen
open Go Go.Sh
set_option maxRecDepth 20000
set_option maxHeartbeats 4000000
instance:aZ 26 (∀p0 p1 p2 r (h:nZ p0 p1 p2=some r),Sc 26 [aX (M.aD.en p0),aS p1,aS p2] [rI r]):=⟨λp0 p1 p2 r h=>by
 have i1:=inv λm s=>∃v7:Int,(s.t 1=vS p1/\s.t 2=vS p2/\s.t 3=vP 3 1 0/\s.t 7=vI v7/\s.h 3=(1,oX 47 (M.aD.en p0)))/\fD p0 p1 p2 m v7=some r
 have e1:=@fD.eq_2
 unfold nZ at h
 exact sgo 34 [.tmp 6] Tryz.func26⟩
instance:aZ 416 (∀p0 r (h:Ax p0=some r),Sc 416 [aX (M.aEQ.en p0)] [(true,M.aEQ.rs r)]):=⟨λp0 r h=>by unfold Ax at h;exact sgo 11 [.cell 2 189] Tryz.func416⟩
instance:aZ 395 (∀p0 r (h:yJ p0=some r),Sc 395 [aX (M.aEZ.en p0)] [(true,M.aEZ.rs r)]):=⟨λp0 r h=>by
 have i1:=KP [.b 3 1 7050000 351 7] λm s=>∃v4:Int,∃aa:List M.aEW,∃ae:Nat,(s.t 1=vP 1 1 0/\s.t 2=vP 2 1 0/\s.t 3=vP 3 1 0/\s.t 4=vI v4/\s.h 1=(1,oX 345 (M.aEZ.en p0))/\s.h 2=(1,oB 345 [cI 0,.nil])/\s.h 3=(1,oB 345 [cI p0.aER,.row 7050000 ae])/\s.h 7050000=(ae,oW 351 7 M.aEW.en aa))/\kF p0 m v4 aa=some r
 have e1:=@kF.eq_2
 unfold yJ at h
 exact sgo 36 [.cell 2 345] Tryz.func395⟩
instance:aZ 253 (∀p0 r (h:AH p0=some r),Sc 253 [aX (M.aP.en p0)] [(true,M.aP.rs r)]):=⟨λp0 r h=>by
 have i1:=KP [.b 3 0 7050000 345 2] λm s=>∃v4:Int,∃aa:List M.aEZ,∃ae:Nat,(s.t 1=vP 1 1 0/\s.t 2=vP 2 1 0/\s.t 3=vP 3 1 0/\s.t 4=vI v4/\s.h 1=(1,oX 108 (M.aP.en p0))/\s.h 2=(1,oB 108 [.nil])/\s.h 3=(1,oB 108 [.row 7050000 ae])/\s.h 7050000=(ae,oW 345 2 M.aEZ.en aa))/\lW p0 m v4 aa=some r
 have e1:=@lW.eq_2
 unfold AH at h
 exact sgo 25 [.cell 2 108] Tryz.func253⟩
instance:aZ 168 (∀p0 r (h:bY p0=some r),Sc 168 [aX (M.aA.en p0)] [(true,M.aA.rs r)]):=⟨λp0 r h=>by unfold bY at h;exact sgo 8 [.cell 2 129] Tryz.func168⟩
instance:aZ 429 (∀p0 r (h:uP p0=some r),Sc 429 [aX (M.aES.en p0)] [(true,M.aES.rs r)]):=⟨λp0 r h=>by unfold uP at h;exact sgo 9 [.cell 2 260] Tryz.func429⟩
instance:aZ 306 (∀p0 r (h:eR p0=some r),Sc 306 [aX (M.aC.en p0)] [(true,M.aC.rs r)]):=⟨λp0 r h=>by
 have i1:=KP [.b 3 1 7050000 260 4] λm s=>∃v4:Int,∃aa:List M.aES,∃ae:Nat,(s.t 1=vP 1 1 0/\s.t 2=vP 2 1 0/\s.t 3=vP 3 1 0/\s.t 4=vI v4/\s.h 1=(1,oX 117 (M.aC.en p0))/\s.h 2=(1,oB 117 [cS (⟨#[]⟩:ByteArray),.nil,cI 0])/\s.h 3=(1,oB 117 [cS p0.Name,.row 7050000 ae,cI p0.aEo])/\s.h 7050000=(ae,oW 260 4 M.aES.en aa))/\mU p0 m v4 aa=some r
 have e1:=@mU.eq_2
 unfold eR at h
 exact sgo 29 [.cell 2 117] Tryz.func306⟩
instance:aZ 489 (∀p0 r (h:AA p0=some r),Sc 489 [aX (M.aU.en p0)] [(true,M.aU.rs r)]):=⟨λp0 r h=>by unfold AA at h;exact sgo 11 [.cell 2 120] Tryz.func489⟩
instance:aZ 396 (∀p0 r (h:An p0=some r),Sc 396 [aX (M.aEf.en p0)] [(true,M.aEf.rs r)]):=⟨λp0 r h=>by unfold An at h;exact sgo 10 [.cell 2 122] Tryz.func396⟩
instance:aZ 398 (∀p0 r (h:vW p0=some r),Sc 398 [aL M.Instr.en p0] [rW 308 4 M.Instr.en r]):=⟨λp0 r h=>by unfold vW at h;exact sgo 6 [.tmp 2] Tryz.func398⟩
instance:aZ 305 (∀p0 r (h:Av p0=some r),Sc 305 [aX (M.aEO.en p0)] [(true,M.aEO.rs r)]):=⟨λp0 r h=>by unfold Av at h;exact sgo 15 [.cell 2 65] Tryz.func305⟩
instance:aZ 160 (∀p0 r (h:Ao p0=some r),Sc 160 [aX (M.bS.en p0)] [(true,M.bS.rs r)]):=⟨λp0 r h=>by unfold Ao at h;exact sgo 15 [.cell 2 67] Tryz.func160⟩
instance:aZ 163 (∀p0 r (h:Ay p0=some r),Sc 163 [aX (M.aET.en p0)] [(true,M.aET.rs r)]):=⟨λp0 r h=>by unfold Ay at h;exact sgo 11 [.cell 2 92] Tryz.func163⟩
instance:aZ 431 (∀p0 p1 r (h:eG p0 p1=some r),Sc 431 [aL enB p0,aI p1] [rI r.1,rI r.2.1,rB r.2.2]):=⟨λp0 p1 r h=>by
 have i1:=inv λm s=>∃v7:Int,∃v8:Int,(s.t 0=vL enB p0/\s.t 1=vI p1/\s.t 7=vI v7/\s.t 8=vI v8)/\dJ p0 p1 m v7 v8=some r
 have e1:=@dJ.eq_2
 unfold eG at h
 exact sgo 55 [.tmp 4,.tmp 5,.tmp 6] Tryz.func431⟩
instance:aZ 430 (∀p0 p1 p2 r (h:dF p0 p1 p2=some r),Sc 430 [aL enB p0,aI p1,aI p2] [rW 5 1 enB r.1,rI r.2.1,rB r.2.2]):=⟨λp0 p1 p2 r h=>by unfold dF at h;exact sgo 46 [.tmp 6,.tmp 7,.tmp 8] Tryz.func430⟩
instance:aZ 437 (∀p0 r (h:rU p0=some r),Sc 437 [aL enB p0] [rW 3 1 enI r]):=⟨λp0 r h=>by
 have i1:=inv λm s=>∃v4:Int,∃r7:List Int,∃u7:Nat,(s.t 0=vL enB p0/\s.t 3=vR 100007 u7/\s.t 4=vI v4/\s.h 100007=(u7,oW 3 1 enI r7))/\fV p0 m v4 r7=some r
 have e1:=@fV.eq_2
 unfold rU at h
 exact sgo 23 [.tmp 2] Tryz.func437⟩
instance:aZ 166 (∀p0 p1 r (h:kX p0 p1=some r),Sc 166 [aX (M.aEK.en p0),aS p1] [rI r]):=⟨λp0 p1 r h=>by
 have i1:=inv λm s=>∃v5:Int,(s.t 1=vS p1/\s.t 2=vP 2 1 0/\s.t 5=vI v5/\s.h 2=(1,oX 112 (M.aEK.en p0)))/\iV p0 p1 m v5=some r
 have e1:=@iV.eq_2
 unfold kX at h
 exact sgo 22 [.tmp 4] Tryz.func166⟩
instance:aZ 513 (∀p0 p1 r (h:iF p0 p1=some r),Sc 513 [aX (M.aA.en p0),aS p1] [rI r.1,rB r.2]):=⟨λp0 p1 r h=>by
 have i1:=inv λm s=>∃v6:Int,(s.t 1=vS p1/\s.t 2=vP 2 1 0/\s.t 6=vI v6/\s.h 2=(1,oX 129 (M.aA.en p0)))/\mL p0 p1 m v6=some r
 have e1:=@mL.eq_2
 unfold iF at h
 exact sgo 28 [.tmp 4,.tmp 5] Tryz.func513⟩
instance:aZ 167 (∀p0 p1 r (h:iC p0 p1=some r),Sc 167 [aX (M.aC.en p0),aX (M.Key.en p1)] [rI r]):=⟨λp0 p1 r h=>by
 have i1:=inv λm s=>∃v5:Int,(s.t 2=vP 2 1 0/\s.t 3=vP 3 1 0/\s.t 5=vI v5/\s.h 2=(1,oX 117 (M.aC.en p0))/\s.h 3=(1,oX 136 (M.Key.en p1)))/\kP p0 p1 m v5=some r
 have e1:=@kP.eq_2
 unfold iC at h
 exact sgo 22 [.tmp 4] Tryz.func167⟩
instance:aZ 47 (∀p0 r (h:zI p0=some r),Sc 47 [aI p0] [(true,M.Key.rs r)]):=⟨λp0 r h=>by unfold zI at h;exact sgo 5 [.cell 2 136] Tryz.func47⟩
instance:aZ 563 (∀p0 p1 r (h:tC p0 p1=some r),Sc 563 [aX (M.aEQ.en p0),aB p1] [rI r]):=⟨λp0 p1 r h=>by unfold tC at h;exact sgo 10 [.tmp 4] Tryz.func563⟩
instance:aZ 486 (∀p0 r (h:sU p0=some r),Sc 486 [aX (M.aP.en p0)] [rI r]):=⟨λp0 r h=>by
 have i1:=inv λm s=>∃v3:Int,∃v4:Int,(s.t 1=vP 1 1 0/\s.t 3=vI v3/\s.t 4=vI v4/\s.h 1=(1,oX 108 (M.aP.en p0)))/\dS p0 m v3 v4=some r
 have e1:=@dS.eq_2
 have i2:=λ(v4:Int) (k8:Int->Int->Option Int)=>inv λm s=>∃aa:Int,∃ae:Int,(s.t 1=vP 1 1 0/\s.t 3=vI aa/\s.t 4=vI v4/\s.t 5=vI ae/\s.h 1=(1,oX 108 (M.aP.en p0)))/\hJ p0 v4 k8 m aa ae=some r
 have e2:=@hJ.eq_2
 unfold sU at h
 exact sgo 43 [.tmp 2] Tryz.func486⟩
instance:aZ 255 (∀p0 p1 p2 r (h:wR p0 p1 p2=some r),Sc 255 [aX (M.aEJ.en p0),aS p1,aS p2] [rB r]):=⟨λp0 p1 p2 r h=>by unfold wR at h;exact sgo 23 [.tmp 6] Tryz.func255⟩
