/-
  Helper text. No conditions.
-/
import Derived.Test.YtbpbocchokbggaaGreatUpdatesTi
set_option linter.all false
namespace Go.Proofs.YtbpbocchokbggaaGreat.gen
open Go Go.Sh
set_option maxRecDepth 20000
set_option maxHeartbeats 4000000
instance aC7:bE 416 (∀p0 r (h:uR p0=some r),Sc 416 [aX (M.aI8.en p0)] [(true,M.aI8.rs r)]):=⟨λp0 r h=>by unfold uR at h;exact sgo 11 [.cell 2 189] Tryz.func416⟩
instance:bE 395 (∀p0 r (h:Bd p0=some r),Sc 395 [aX (M.aI5.en p0)] [(true,M.aI5.rs r)]):=⟨λp0 r h=>by
 have i1:=E5 [.b 3 1 7050000 351 7] λm s=>∃v4:Int,∃aa:List M.aJE,∃ae:Nat,(s.t 1=vP 1 1 0/\s.t 2=vP 2 1 0/\s.t 3=vP 3 1 0/\s.t 4=vI v4/\s.h 1=(1,oX 345 (M.aI5.en p0))/\s.h 2=(1,oB 345 [cI 0,.nil])/\s.h 3=(1,oB 345 [cI p0.aI0,.row 7050000 ae])/\s.h 7050000=(ae,oW 351 7 M.aJE.en aa))/\oE p0 m v4 aa=some r
 have e1:=@oE.eq_2
 unfold Bd at h
 exact sgo 36 [.cell 2 345] Tryz.func395⟩
instance Yn:bE 253 (∀p0 r (h:bP p0=some r),Sc 253 [aX (M.aC.en p0)] [(true,M.aC.rs r)]):=⟨λp0 r h=>by
 have i1:=E5 [.b 3 0 7050000 345 2] λm s=>∃v4:Int,∃aa:List M.aI5,∃ae:Nat,(s.t 1=vP 1 1 0/\s.t 2=vP 2 1 0/\s.t 3=vP 3 1 0/\s.t 4=vI v4/\s.h 1=(1,oX 108 (M.aC.en p0))/\s.h 2=(1,oB 108 [.nil])/\s.h 3=(1,oB 108 [.row 7050000 ae])/\s.h 7050000=(ae,oW 345 2 M.aI5.en aa))/\rX p0 m v4 aa=some r
 have e1:=@rX.eq_2
 unfold bP at h
 exact sgo 25 [.cell 2 108] Tryz.func253⟩
instance:bE 168 (∀p0 r (h:cO p0=some r),Sc 168 [aX (M.aE.en p0)] [(true,M.aE.rs r)]):=⟨λp0 r h=>by unfold cO at h;exact sgo 8 [.cell 2 129] Tryz.func168⟩
instance:bE 429 (∀p0 r (h:Ad p0=some r),Sc 429 [aX (M.aJN.en p0)] [(true,M.aJN.rs r)]):=⟨λp0 r h=>by unfold Ad at h;exact sgo 9 [.cell 2 260] Tryz.func429⟩
instance:bE 306 (∀p0 r (h:cD p0=some r),Sc 306 [aX (M.aD.en p0)] [(true,M.aD.rs r)]):=⟨λp0 r h=>by
 have i1:=E5 [.b 3 1 7050000 260 4] λm s=>∃v4:Int,∃aa:List M.aJN,∃ae:Nat,(s.t 1=vP 1 1 0/\s.t 2=vP 2 1 0/\s.t 3=vP 3 1 0/\s.t 4=vI v4/\s.h 1=(1,oX 117 (M.aD.en p0))/\s.h 2=(1,oB 117 [cS (⟨#[]⟩:ByteArray),.nil,cI 0])/\s.h 3=(1,oB 117 [cS p0.Name,.row 7050000 ae,cI p0.aJa])/\s.h 7050000=(ae,oW 260 4 M.aJN.en aa))/\tN p0 m v4 aa=some r
 have e1:=@tN.eq_2
 unfold cD at h
 exact sgo 29 [.cell 2 117] Tryz.func306⟩
instance:bE 161 (∀p0 r (h:yP p0=some r),Sc 161 [aX (M.aQ.en p0)] [(true,M.aQ.rs r)]):=⟨λp0 r h=>by unfold yP at h;exact sgo 8 [.cell 2 51] Tryz.func161⟩
instance:bE 162 (∀p0 r (h:AN p0=some r),Sc 162 [aX (M.aJD.en p0)] [(true,M.aJD.rs r)]):=⟨λp0 r h=>by unfold AN at h;exact sgo 8 [.cell 2 54] Tryz.func162⟩
instance:bE 542 (∀p0 p1 r (h:B5 p0 p1=some r),Sc 542 [aL M.bG.en p0,aI p1] [rI r]):=⟨λp0 p1 r h=>by
 have i1:=inv λm s=>∃v5:Int,(s.t 0=vL M.bG.en p0/\s.t 1=vI p1/\s.t 5=vI v5)/\pY p0 p1 m v5=some r
 have e1:=@pY.eq_2
 unfold B5 at h
 exact sgo 20 [.tmp 4] Tryz.func542⟩
theorem aIo(p0 p1 r)(h:Av p0 p1=some r):Sc 467 [aX (M.World.en p0),aI p1] [rI r]:=by unfold Av at h;exact sgo 9 [.tmp 4] Tryz.func467
instance aCc:bE 166 (∀p0 p1 r (h:tH p0 p1=some r),Sc 166 [aX (M.aI2.en p0),aS p1] [rI r]):=⟨λp0 p1 r h=>by
 have i1:=inv λm s=>∃v5:Int,(s.t 1=vS p1/\s.t 2=vP 2 1 0/\s.t 5=vI v5/\s.h 2=(1,oX 112 (M.aI2.en p0)))/\nA p0 p1 m v5=some r
 have e1:=@nA.eq_2
 unfold tH at h
 exact sgo 22 [.tmp 4] Tryz.func166⟩
instance:bE 563 (∀p0 p1 r (h:zI p0 p1=some r),Sc 563 [aX (M.aI8.en p0),aB p1] [rI r]):=⟨λp0 p1 r h=>by unfold zI at h;exact sgo 10 [.tmp 4] Tryz.func563⟩
instance:bE 486 (∀p0 r (h:yY p0=some r),Sc 486 [aX (M.aC.en p0)] [rI r]):=⟨λp0 r h=>by
 have i1:=inv λm s=>∃v3:Int,∃v4:Int,(s.t 1=vP 1 1 0/\s.t 3=vI v3/\s.t 4=vI v4/\s.h 1=(1,oX 108 (M.aC.en p0)))/\eV p0 m v3 v4=some r
 have e1:=@eV.eq_2
 have i2:=λ(v4:Int) (k8:Int->Int->Option Int)=>inv λm s=>∃aa:Int,∃ae:Int,(s.t 1=vP 1 1 0/\s.t 3=vI aa/\s.t 4=vI v4/\s.t 5=vI ae/\s.h 1=(1,oX 108 (M.aC.en p0)))/\kX p0 v4 k8 m aa ae=some r
 have e2:=@kX.eq_2
 unfold yY at h
 exact sgo 43 [.tmp 2] Tryz.func486⟩
instance:bE 596 (∀p0 p1 p2 r (h:Cw p0 p1 p2=some r),Sc 596 [aL M.mV.en p0,aI p1,aX (M.mV.en p2)] [rB r]):=⟨λp0 p1 p2 r h=>by
 have i1:=inv λm s=>∃v7:Int,(s.t 0=vL M.mV.en p0/\s.t 1=vI p1/\s.t 5=vP 5 1 0/\s.t 7=vI v7/\s.h 5=(1,oX 196 (M.mV.en p2)))/\pF p0 p1 p2 m v7=some r
 have e1:=@pF.eq_2
 unfold Cw at h
 exact sgo 42 [.tmp 6] Tryz.func596⟩
instance:bE 543 (∀p0 r (h:vJ p0=some r),Sc 543 [aX (M.aQ.en p0)] [(true,M.aQ.rs r)]):=⟨λp0 r h=>by
 have i1:=inv λm s=>∃v4:Int,∃r6:List M.mV,(s.t 2=vP 2 1 0/\s.t 3=vP 3 1 0/\s.t 4=vI v4/\s.h 2=(1,oB 51 [.nil])/\s.h 3=(1,oB 51 [.row 100006 1])/\s.h 100006=(1,oW 196 4 M.mV.en r6))/\fA m v4 r6=some r
 have e1:=@fA.eq_2
 unfold vJ at h
 exact sgo 38 [.cell 2 51] Tryz.func543⟩
theorem aIl(p0 p1 r)(h:vZ p0 p1=some r):Sc 468 [aX (M.aQ.en p0),aI p1] [(true,M.aQ.rs r)]:=by
 have i1:=E5 [.b 5 0 7050000 196 4] λm s=>∃I:Int,∃j:List M.mV,∃C:Nat,(s.t 1=vI p1/\s.t 2=vP 2 1 0/\s.t 4=vP 4 1 0/\s.t 5=vP 5 1 0/\s.t 6=vI I/\s.h 2=(1,oX 51 (M.aQ.en p0))/\s.h 4=(1,oB 51 [.nil])/\s.h 5=(1,oB 51 [.row 7050000 C])/\s.h 7050000=(C,oW 196 4 M.mV.en j))/\eS p0 p1 m I j=some r
 have e1:=@eS.eq_2
 unfold vZ at h
 exact sgo 35 [.cell 4 51] Tryz.func468
instance:bE 257 (∀r (h:cU=some r),Sc 257 [] [(true,M.aI8.rs r)]):=⟨λr h=>by unfold cU at h;exact sgo 2 [.cell 0 189] Tryz.func257⟩
instance aB6:bE 293 (∀p0 p1 r (h:tT p0 p1=some r),Sc 293 [aX (M.aC.en p0),aI p1] [rI r]):=⟨λp0 p1 r h=>by
 have i1:=inv λm s=>∃v5:Int,(s.t 1=vI p1/\s.t 2=vP 2 1 0/\s.t 5=vI v5/\s.h 2=(1,oX 108 (M.aC.en p0)))/\mM p0 p1 m v5=some r
 have e1:=@mM.eq_2
 unfold tT at h
 exact sgo 22 [.tmp 4] Tryz.func293⟩
instance aCo:bE 417 (∀p0 p1 p2 r (h:AD p0 p1 p2=some r),Sc 417 [aX (M.aI5.en p0),aS p1,aS p2] [rI r]):=⟨λp0 p1 p2 r h=>by
 have i1:=inv λm s=>∃v7:Int,(s.t 1=vS p1/\s.t 2=vS p2/\s.t 3=vP 3 1 0/\s.t 7=vI v7/\s.h 3=(1,oX 345 (M.aI5.en p0)))/\nR p0 p1 p2 m v7=some r
 have e1:=@nR.eq_2
 unfold AD at h
 exact sgo 34 [.tmp 6] Tryz.func417⟩
instance:bE 399 (∀p0 p1 p2 p3 r (h:zG p0 p1 p2 p3=some r),Sc 399 [aX (M.aC.en p0),aI p1,aS p2,aS p3] [(true,M.aI8.rs r.1),rB r.2]):=⟨λp0 p1 p2 p3 r h=>by unfold zG at h;exact sgo 40 [.cell 8 189,.tmp 9] Tryz.func399⟩
instance:bE 288 (∀p0 p1 r (h:AR p0 p1=some r),Sc 288 [aI p0,aI p1] [rI r]):=⟨λp0 p1 r h=>by unfold AR at h;exact sgo 10 [.tmp 4] Tryz.func288⟩
instance:bE 437 (∀p0 r (h:tD p0=some r),Sc 437 [aL enB p0] [rW 3 1 enI r]):=⟨λp0 r h=>by
 have i1:=inv λm s=>∃v4:Int,∃r7:List Int,∃u7:Nat,(s.t 0=vL enB p0/\s.t 3=vR 100007 u7/\s.t 4=vI v4/\s.h 100007=(u7,oW 3 1 enI r7))/\iQ p0 m v4 r7=some r
 have e1:=@iQ.eq_2
 unfold tD at h
 exact sgo 23 [.tmp 2] Tryz.func437⟩
instance:bE 140 (∀p0 r (h:uD p0=some r),Sc 140 [aX (M.aIz.en p0)] [rI r]):=⟨λp0 r h=>by unfold uD at h;exact sgo 11 [.tmp 2] Tryz.func140⟩
instance:bE 433 (∀p0 p1 r (h:zK p0 p1=some r),Sc 433 [aL enB p0,aL enB p1] [rB r]):=⟨λp0 p1 r h=>by unfold zK at h;exact sgo 10 [.tmp 4] Tryz.func433⟩
instance:bE 167 (∀p0 p1 r (h:oL p0 p1=some r),Sc 167 [aX (M.aD.en p0),aX (M.Key.en p1)] [rI r]):=⟨λp0 p1 r h=>by
 have i1:=inv λm s=>∃v5:Int,(s.t 2=vP 2 1 0/\s.t 3=vP 3 1 0/\s.t 5=vI v5/\s.h 2=(1,oX 117 (M.aD.en p0))/\s.h 3=(1,oX 136 (M.Key.en p1)))/\oY p0 p1 m v5=some r
 have e1:=@oY.eq_2
 unfold oL at h
 exact sgo 22 [.tmp 4] Tryz.func167⟩
instance:bE 554 (∀p0 p1 r (h:yL p0 p1=some r),Sc 554 [aX (M.aJC.en p0),aI p1] [rI r]):=⟨λp0 p1 r h=>by
 have i1:=inv λm s=>∃v5:Int,(s.t 1=vI p1/\s.t 2=vP 2 1 0/\s.t 5=vI v5/\s.h 2=(1,oX 205 (M.aJC.en p0)))/\vA p0 p1 m v5=some r
 have e1:=@vA.eq_2
 unfold yL at h
 exact sgo 27 [.tmp 4] Tryz.func554⟩
instance:bE 607 (∀p0 p1 p2 r (h:BS p0 p1 p2=some r),Sc 607 [aL M.aP.en p0,aI p1,aI p2] [rW 325 2 M.aP.en r]):=⟨λp0 p1 p2 r h=>by
 have i1:=inv λm s=>∃v8:Int,(s.t 0=vL M.aP.en p0/\s.t 1=vI p1/\s.t 2=vI p2/\s.t 7=vR 100009 2/\s.t 8=vI v8/\s.h 100009=(2,oW 325 2 M.aP.en p0))/\vE p0 p1 p2 m v8=some r
 have e1:=@vE.eq_2
 unfold BS at h
 exact sgo 60 [.tmp 6] Tryz.func607⟩
instance:bE 643 (∀p0 r (h:Bx p0=some r),Sc 643 [aX (M.aK.en p0)] [(true,M.bC.rs r.1),rB r.2]):=⟨λp0 r h=>by unfold Bx at h;exact sgo 13 [.cell 2 328,.tmp 3] Tryz.func643⟩
instance:bE 645 (∀p0 p1 r (h:iK p0 p1=some r),Sc 645 [aI p0,aI p1] [rI r]):=⟨λp0 p1 r h=>by unfold iK at h;exact sgo 10 [.tmp 4] Tryz.func645⟩
instance:bE 646 (∀p0 r (h:jZ p0=some r),Sc 646 [aI p0] [rI r]):=⟨λp0 r h=>by
 have i1:=inv λm s=>∃v3:Int,∃v4:Int,(s.t 0=vI p0/\s.t 3=vI v3/\s.t 4=vI v4)/\rK p0 m v3 v4=some r
 have e1:=@rK.eq_2
 unfold jZ at h
 exact sgo 17 [.tmp 2] Tryz.func646⟩
