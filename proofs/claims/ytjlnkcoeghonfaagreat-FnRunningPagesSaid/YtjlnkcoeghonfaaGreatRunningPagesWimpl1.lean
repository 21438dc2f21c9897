/-
  Helper text. No conditions.
-/
import Derived.Test.YtjlnkcoeghonfaaGreatRunningPagesTi
set_option linter.all false
namespace Go.Proofs.YtjlnkcoeghonfaaGreat.gen
open Go Go.Sh Tryz
set_option maxRecDepth 20000
set_option maxHeartbeats 4000000
instance:bK 406 (∀p0 r (h:pC p0=some r),Sc 406 [aX (M.aN.en p0)] [(true,M.aN.rs r)]):=⟨λp0 r h=>by unfold pC at h;exact sgo 9 [.cell 2 78] func406⟩
instance:bK 135 (∀p0 r (h:Cf p0=some r),Sc 135 [aX (M.aT.en p0)] [(true,M.aT.rs r)]):=⟨λp0 r h=>by unfold Cf at h;exact sgo 8 [.cell 2 43] func135⟩
theorem aKO(p0 c0 r)(h:A3 p0 c0=some r):Sc 140 [aX (M.bO.en p0),(false,[.ptr [.int .i64 c0]])] [rB r]:=by unfold A3 at h;exact sgo 8 [.tmp 3] func140
instance R9:bK 141 (∀p0 p1 p2 r (h:bB p0 p1 p2=some r),Sc 141 [aI p0,aI p1,aI p2] [rB r]):=⟨λp0 p1 p2 r h=>by unfold bB at h;exact sgo 15 [.tmp 6] func141⟩
instance:bK 475 (∀p0 r (h:Ce p0=some r),Sc 475 [aS p0] [rB r]):=⟨λp0 r h=>by
 have i1:=inv λm s=>∃v3:Int,(s.t 0=vS p0/\s.t 3=vI v3)/\fH p0 m v3=some r
 have e1:=@fH.eq_2
 unfold Ce at h
 exact sgo 36 [.tmp 2] func475⟩
instance:bK 476 (∀p0 p1 r (h:AM p0 p1=some r),Sc 476 [aI p0,aI p1] [rI r]):=⟨λp0 p1 r h=>by unfold AM at h;exact sgo 13 [.tmp 4] func476⟩
set_option maxRecDepth 100000 in
theorem aJi (j:ByteArray) (C:ByteArray) (r:Int) (h:sE j C=some r):kU prog 552 [(false,[.str j]),(false,[.str C])] [(false,[.ro (.int .i64 r)])]:=by
 refine UK func552 rfl wM λw => ?_
 cases h
 go_enter func552,Tryz.ntmps552
 go_wp2
 rw [run_callFunc_extern func587 (by kernel_rfl) (by kernel_rfl) (by kernel_rfl) (e:=Extern.BytealgCompare.compare) (by kernel_rfl),Lib.run_compareString]
 simp only [Result.andThen]
 rw [Oper.upon_value]
 go_wp2
 go_ret
 exact ⟨rfl,rfl⟩
instance:bK 552 (type_of%@aJi):=⟨@aJi⟩
theorem aKe(I:List M.aE)(J:M.aE->Option Bool)(j:FuncId)(C:List D)(hp1:∀z0 r,J z0=some r->kU prog j ((true,M.aE.en z0)::  C.map λc=>(false,[c])) [(false,[.ro (.bool r)])])(r:Int)(h:oT I J=some r):Sc 389 [(false,[.sl (List.map M.aE.en I)]),(false,[.fn j C])] [rI r]:=by
 have i1:=inv λm s=>∃U:Int,(s.t 0=vL M.aE.en I/\s.t 1=.v false [.dat (.fn j C)]/\s.t 7=vI (List.length I:Int)/\s.t 8=vI U)/\eH I J m U=some r
 have e1:=@eH.eq_2
 unfold oT at h
 exact sgo 19 [.tmp 4] func389
instance:bK 548 (∀p0 p1 r (h:pQ p0 p1=some r),Sc 548 [aL M.aU.en p0,aX (M.aU.en p1)] [rI r]):=⟨λp0 p1 r h=>by
 have i1:=inv λm s=>∃v8:Int,(s.t 0=vL M.aU.en p0/\s.t 3=vP 3 1 0/\s.t 7=vI (List.length p0:Int)/\s.t 8=vI v8/\s.h 3=(1,oX 382 (M.aU.en p1)))/\eV p0 p1 m v8=some r
 have e1:=@eV.eq_2
 unfold pQ at h
 exact sgo 19 [.tmp 4] func548⟩
theorem aKS(p0 c0 r)(h:zZ p0 c0=some r):Sc 394 [aX (M.aR.en p0),(false,[.ptr [.str c0]])] [rB r]:=by unfold zZ at h;exact sgo 8 [.tmp 3] func394
instance:bK 550 (∀p0 p1 r (h:BS p0 p1=some r),Sc 550 [aX (M.aLb.en p0),aB p1] [rI r]):=⟨λp0 p1 r h=>by unfold BS at h;exact sgo 10 [.tmp 4] func550⟩
instance:bK 261 (∀p0 p1 r (h:oY p0 p1=some r),Sc 261 [aL enS p0,aS p1] [rI r]):=⟨λp0 p1 r h=>by
 have i1:=inv λm s=>∃v8:Int,(s.t 0=vL enS p0/\s.t 1=vS p1/\s.t 7=vI (List.length p0:Int)/\s.t 8=vI v8)/\cU p0 p1 m v8=some r
 have e1:=@cU.eq_2
 unfold oY at h
 exact sgo 19 [.tmp 4] func261⟩
theorem aKp(I:List M.aLr)(J:List M.aLr)(U:M.aLr->M.aLr->Option Bool)(j:FuncId)(C:List D)(hp2:∀z0 z1 r,U z0 z1=some r->kU prog j ((true,M.aLr.en z0)::(true,M.aLr.en z1)::  C.map λc=>(false,[c])) [(false,[.ro (.bool r)])])(r:Bool)(h:mY I J U=some r):Sc 522 [(false,[.sl (List.map M.aLr.en I)]),(false,[.sl (List.map M.aLr.en J)]),(false,[.fn j C])] [rB r]:=by
 have i1:=inv λm s=>∃aa:Int,(s.t 1=vL M.aLr.en J/\s.t 2=.v false [.dat (.fn j C)]/\s.t 15=vL M.aLr.en I/\s.t 16=vI (List.length I:Int)/\s.t 17=vI aa)/\fO I J U m aa=some r
 have e1:=@fO.eq_2
 unfold mY at h
 exact sgo 32 [.tmp 6] func522
theorem aLD(I:List M.aLo)(J:List M.aLo)(U:M.aLo->M.aLo->Option Bool)(j:FuncId)(C:List D)(hp2:∀z0 z1 r,U z0 z1=some r->kU prog j ((true,M.aLo.en z0)::(true,M.aLo.en z1)::  C.map λc=>(false,[c])) [(false,[.ro (.bool r)])])(r:Bool)(h:pM I J U=some r):Sc 315 [(false,[.sl (List.map M.aLo.en I)]),(false,[.sl (List.map M.aLo.en J)]),(false,[.fn j C])] [rB r]:=by
 have i1:=inv λm s=>∃aa:Int,(s.t 1=vL M.aLo.en J/\s.t 2=.v false [.dat (.fn j C)]/\s.t 15=vL M.aLo.en I/\s.t 16=vI (List.length I:Int)/\s.t 17=vI aa)/\iA I J U m aa=some r
 have e1:=@iA.eq_2
 unfold pM at h
 exact sgo 32 [.tmp 6] func315
theorem aKr(p0 p1 r)(h:pY p0 p1=some r):Sc 525 [aL M.aU.en p0,aL M.aU.en p1] [rB r]:=by
 have i1:=inv λm s=>∃j:Int,(s.t 0=vL M.aU.en p0/\s.t 1=vL M.aU.en p1/\s.t 12=vI (List.length p0:Int)/\s.t 13=vI j)/\hY p0 p1 m j=some r
 have e1:=@hY.eq_2
 unfold pY at h
 exact sgo 26 [.tmp 4] func525
theorem c79(I:List M.bO)(J:List M.bO)(U:M.bO->M.bO->Option Bool)(j:FuncId)(C:List D)(hp2:∀z0 z1 r,U z0 z1=some r->kU prog j ((true,M.bO.en z0)::(true,M.bO.en z1)::  C.map λc=>(false,[c])) [(false,[.ro (.bool r)])])(r:Bool)(h:pL I J U=some r):Sc 79 [(false,[.sl (List.map M.bO.en I)]),(false,[.sl (List.map M.bO.en J)]),(false,[.fn j C])] [rB r]:=by
 have i1:=inv λm s=>∃aa:Int,(s.t 1=vL M.bO.en J/\s.t 2=.v false [.dat (.fn j C)]/\s.t 15=vL M.bO.en I/\s.t 16=vI (List.length I:Int)/\s.t 17=vI aa)/\iC I J U m aa=some r
 have e1:=@iC.eq_2
 unfold pL at h
 exact sgo 32 [.tmp 6] func79
instance:bK 198 (∀p0 p1 r (h:uG p0 p1=some r),Sc 198 [aL M.aW.en p0,aL M.aW.en p1] [rB r]):=⟨λp0 p1 r h=>by
 have i1:=inv λm s=>∃aa:Int,(s.t 0=vL M.aW.en p0/\s.t 1=vL M.aW.en p1/\s.t 12=vI (List.length p0:Int)/\s.t 13=vI aa)/\kT p0 p1 m aa=some r
 have e1:=@kT.eq_2
 unfold uG at h
 exact sgo 26 [.tmp 4] func198⟩
instance:bK 313 (∀p0 p1 r (h:xP p0 p1=some r),Sc 313 [aL M.aZ.en p0,aL M.aZ.en p1] [rB r]):=⟨λp0 p1 r h=>by
 have i1:=inv λm s=>∃aa:Int,(s.t 0=vL M.aZ.en p0/\s.t 1=vL M.aZ.en p1/\s.t 12=vI (List.length p0:Int)/\s.t 13=vI aa)/\lX p0 p1 m aa=some r
 have e1:=@lX.eq_2
 unfold xP at h
 exact sgo 26 [.tmp 4] func313⟩
