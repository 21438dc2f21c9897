/-
  Helper text. No conditions.
-/
import Derived.Test.YtjlnkcoeghonfaaGreatRunningPagesTi
set_option linter.all false
namespace Go.Proofs.YtjlnkcoeghonfaaGreat.gen
open Go Go.Sh Tryz
set_option maxRecDepth 20000
set_option maxHeartbeats 4000000
instance:bK 397 (∀p0 r (h:eD p0=some r),Sc 397 [aL enB p0] [rW 5 1 enB r]):=⟨λp0 r h=>by unfold eD at h;exact sgo 6 [.tmp 2] func397⟩
instance:bK 136 (∀p0 r (h:A0 p0=some r),Sc 136 [aX (M.aLe.en p0)] [(true,M.aLe.rs r)]):=⟨λp0 r h=>by unfold A0 at h;exact sgo 8 [.cell 2 46] func136⟩
instance:bK 137 (∀p0 r (h:C2 p0=some r),Sc 137 [aX (M.aLa.en p0)] [(true,M.aLa.rs r)]):=⟨λp0 r h=>by unfold C2 at h;exact sgo 9 [.cell 2 151] func137⟩
theorem aLJ(I:List M.bO)(J:M.bO->Option Bool)(j:FuncId)(C:List D)(hp1:∀z0 r,J z0=some r->kU prog j ((true,M.bO.en z0)::  C.map λc=>(false,[c])) [(false,[.ro (.bool r)])])(r:Int)(h:rE I J=some r):Sc 139 [(false,[.sl (List.map M.bO.en I)]),(false,[.fn j C])] [rI r]:=by
 have i1:=inv λm s=>∃U:Int,(s.t 0=vL M.bO.en I/\s.t 1=.v false [.dat (.fn j C)]/\s.t 7=vI (List.length I:Int)/\s.t 8=vI U)/\eX I J m U=some r
 have e1:=@eX.eq_2
 unfold rE at h
 exact sgo 19 [.tmp 4] func139
theorem aLA(p0 c0 r)(h:AO p0 c0=some r):Sc 390 [aX (M.aE.en p0),(false,[.ptr [.str c0]])] [rB r]:=by unfold AO at h;exact sgo 8 [.tmp 3] func390
theorem aLF(I:List M.aR)(J:M.aR->Option Bool)(j:FuncId)(C:List D)(hp1:∀z0 r,J z0=some r->kU prog j ((true,M.aR.en z0)::  C.map λc=>(false,[c])) [(false,[.ro (.bool r)])])(r:Int)(h:pA I J=some r):Sc 393 [(false,[.sl (List.map M.aR.en I)]),(false,[.fn j C])] [rI r]:=by
 have i1:=inv λm s=>∃U:Int,(s.t 0=vL M.aR.en I/\s.t 1=.v false [.dat (.fn j C)]/\s.t 7=vI (List.length I:Int)/\s.t 8=vI U)/\eE I J m U=some r
 have e1:=@eE.eq_2
 unfold pA at h
 exact sgo 19 [.tmp 4] func393
theorem aLO(p0 c0 c1 r)(h:zA p0 c0 c1=some r):Sc 260 [aX (M.Bucket.en p0),(false,[.ptr [.str c0]]),(false,[.ptr [.str c1]])] [rB r]:=by unfold zA at h;exact sgo 15 [.tmp 4] func260
instance:bK 153 (∀r (h:dC=some r),Sc 153 [] [(true,M.aLb.rs r)]):=⟨λr h=>by unfold dC at h;exact sgo 2 [.cell 0 107] func153⟩
instance:bK 486 (∀p0 r (h:vQ p0=some r),Sc 486 [aL enB p0] [rW 3 1 enI r]):=⟨λp0 r h=>by
 have i1:=inv λm s=>∃v11:Int,∃r8:List Int,∃u8:Nat,(s.t 3=vR 100008 u8/\s.t 9=vL enB p0/\s.t 10=vI (List.length p0:Int)/\s.t 11=vI v11/\s.h 100008=(u8,oW 3 1 enI r8))/\lE p0 m v11 r8=some r
 have e1:=@lE.eq_2
 unfold vQ at h
 exact sgo 22 [.tmp 2] func486⟩
theorem aK8(I:List M.aLi)(J:List M.aLi)(U:M.aLi->M.aLi->Option Bool)(j:FuncId)(C:List D)(hp2:∀z0 z1 r,U z0 z1=some r->kU prog j ((true,M.aLi.en z0)::(true,M.aLi.en z1)::  C.map λc=>(false,[c])) [(false,[.ro (.bool r)])])(r:Bool)(h:oP I J U=some r):Sc 434 [(false,[.sl (List.map M.aLi.en I)]),(false,[.sl (List.map M.aLi.en J)]),(false,[.fn j C])] [rB r]:=by
 have i1:=inv λm s=>∃aa:Int,(s.t 1=vL M.aLi.en J/\s.t 2=.v false [.dat (.fn j C)]/\s.t 15=vL M.aLi.en I/\s.t 16=vI (List.length I:Int)/\s.t 17=vI aa)/\gS I J U m aa=some r
 have e1:=@gS.eq_2
 unfold oP at h
 exact sgo 32 [.tmp 6] func434
instance:bK 203 (∀p0 p1 r (h:rO p0 p1=some r),Sc 203 [aL M.bR.en p0,aL M.bR.en p1] [rB r]):=⟨λp0 p1 r h=>by
 have i1:=inv λm s=>∃aa:Int,(s.t 0=vL M.bR.en p0/\s.t 1=vL M.bR.en p1/\s.t 12=vI (List.length p0:Int)/\s.t 13=vI aa)/\lS p0 p1 m aa=some r
 have e1:=@lS.eq_2
 unfold rO at h
 exact sgo 26 [.tmp 4] func203⟩
instance:bK 314 (∀p0 p1 r (h:AU p0 p1=some r),Sc 314 [aL enI p0,aL enI p1] [rB r]):=⟨λp0 p1 r h=>by
 have i1:=inv λm s=>∃aa:Int,(s.t 0=vL enI p0/\s.t 1=vL enI p1/\s.t 12=vI (List.length p0:Int)/\s.t 13=vI aa)/\oU p0 p1 m aa=some r
 have e1:=@oU.eq_2
 unfold AU at h
 exact sgo 26 [.tmp 4] func314⟩
theorem c82(p0 p1 r)(h:zU p0 p1=some r):Sc 82 [aL M.Fy.en p0,aL M.Fy.en p1] [rB r]:=by
 have i1:=inv λm s=>∃j:Int,(s.t 0=vL M.Fy.en p0/\s.t 1=vL M.Fy.en p1/\s.t 12=vI (List.length p0:Int)/\s.t 13=vI j)/\mT p0 p1 m j=some r
 have e1:=@mT.eq_2
 unfold zU at h
 exact sgo 26 [.tmp 4] func82
theorem c83(I:List M.aLa)(J:List M.aLa)(U:M.aLa->M.aLa->Option Bool)(j:FuncId)(C:List D)(hp2:∀z0 z1 r,U z0 z1=some r->kU prog j ((true,M.aLa.en z0)::(true,M.aLa.en z1)::  C.map λc=>(false,[c])) [(false,[.ro (.bool r)])])(r:Bool)(h:pX I J U=some r):Sc 83 [(false,[.sl (List.map M.aLa.en I)]),(false,[.sl (List.map M.aLa.en J)]),(false,[.fn j C])] [rB r]:=by
 have i1:=inv λm s=>∃aa:Int,(s.t 1=vL M.aLa.en J/\s.t 2=.v false [.dat (.fn j C)]/\s.t 15=vL M.aLa.en I/\s.t 16=vI (List.length I:Int)/\s.t 17=vI aa)/\iB I J U m aa=some r
 have e1:=@iB.eq_2
 unfold pX at h
 exact sgo 32 [.tmp 6] func83
instance:bK 200 (∀p0 p1 r (h:uK p0 p1=some r),Sc 200 [aL enS p0,aL enS p1] [rB r]):=⟨λp0 p1 r h=>by
 have i1:=inv λm s=>∃aa:Int,(s.t 0=vL enS p0/\s.t 1=vL enS p1/\s.t 12=vI (List.length p0:Int)/\s.t 13=vI aa)/\kS p0 p1 m aa=some r
 have e1:=@kS.eq_2
 unfold uK at h
 exact sgo 26 [.tmp 4] func200⟩
theorem c85(I:List M.aLj)(J:List M.aLj)(U:M.aLj->M.aLj->Option Bool)(j:FuncId)(C:List D)(hp2:∀z0 z1 r,U z0 z1=some r->kU prog j ((true,M.aLj.en z0)::(true,M.aLj.en z1)::  C.map λc=>(false,[c])) [(false,[.ro (.bool r)])])(r:Bool)(h:nB I J U=some r):Sc 85 [(false,[.sl (List.map M.aLj.en I)]),(false,[.sl (List.map M.aLj.en J)]),(false,[.fn j C])] [rB r]:=by
 have i1:=inv λm s=>∃aa:Int,(s.t 1=vL M.aLj.en J/\s.t 2=.v false [.dat (.fn j C)]/\s.t 15=vL M.aLj.en I/\s.t 16=vI (List.length I:Int)/\s.t 17=vI aa)/\fL I J U m aa=some r
 have e1:=@fL.eq_2
 unfold nB at h
 exact sgo 32 [.tmp 6] func85
instance:bK 202 (∀p0 p1 r (h:sK p0 p1=some r),Sc 202 [aL M.aQ.en p0,aL M.aQ.en p1] [rB r]):=⟨λp0 p1 r h=>by
 have i1:=inv λm s=>∃aa:Int,(s.t 0=vL M.aQ.en p0/\s.t 1=vL M.aQ.en p1/\s.t 12=vI (List.length p0:Int)/\s.t 13=vI aa)/\iU p0 p1 m aa=some r
 have e1:=@iU.eq_2
 unfold sK at h
 exact sgo 26 [.tmp 4] func202⟩
