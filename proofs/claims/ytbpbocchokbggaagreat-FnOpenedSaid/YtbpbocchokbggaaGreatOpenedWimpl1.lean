/-
  Helper text. No conditions.
-/
import Derived.Test.YtbpbocchokbggaaGreatOpenedTi
set_option linter.all false
namespace Go.Proofs.YtbpbocchokbggaaGreat.gen
open Go Go.Sh
set_option maxRecDepth 20000
set_option maxHeartbeats 4000000
instance:bK 346 (∀p0 r (h:lQ p0=some r),Sc 346 [aL enB p0] [rW 5 1 enB r]):=⟨λp0 r h=>by unfold lQ at h;exact sgo 6 [.tmp 2] Tryz.func346⟩
instance:bK 534 (∀p0 r (h:yY p0=some r),Sc 534 [aX (M.aJ.en p0)] [(true,M.aJ.rs r)]):=⟨λp0 r h=>by unfold yY at h;exact sgo 9 [.cell 2 120] Tryz.func534⟩
instance:bK 276 (∀p0 r (h:xC p0=some r),Sc 276 [aX (M.aHJ.en p0)] [(true,M.aHJ.rs r)]):=⟨λp0 r h=>by unfold xC at h;exact sgo 16 [.cell 2 65] Tryz.func276⟩
instance aBc:bK 186 (∀p0 r (h:sU p0=some r),Sc 186 [aX (M.aHN.en p0)] [(true,M.aHN.rs r)]):=⟨λp0 r h=>by unfold sU at h;exact sgo 8 [.cell 2 54] Tryz.func186⟩
theorem aGL(p0 c0 c1 r)(h:wD p0 c0 c1=some r):Sc 422 [aX (M.aHU.en p0),(false,[.ptr [.str c0]]),(false,[.ptr [.str c1]])] [rB r]:=by unfold wD at h;exact sgo 15 [.tmp 4] Tryz.func422
set_option maxRecDepth 100000 in
theorem aEy (j:ByteArray) (C:ByteArray) (r:Int) (h:pH j C=some r):gL Tryz.prog 608 [(false,[.str j]),(false,[.str C])] [(false,[.ro (.int .i64 r)])]:=by
 refine Q5 Tryz.func608 rfl jJ λw => ?_
 cases h
 go_enter Tryz.func608,Tryz.ntmps608
 go_wp2
 rw [run_callFunc_extern Tryz.func632 (by kernel_rfl) (by kernel_rfl) (by kernel_rfl) (e:=Extern.BytealgCompare.compare) (by kernel_rfl),Lib.run_compareString]
 simp only [Result.andThen]
 rw [Oper.upon_value]
 go_wp2
 go_ret
 exact ⟨rfl,rfl⟩
instance:bK 608 (type_of%@aEy):=⟨@aEy⟩
theorem aGz(p0 c0 r)(h:wX p0 c0=some r):Sc 338 [aX (M.aC.en p0),(false,[.ptr [.str c0]])] [rB r]:=by unfold wX at h;exact sgo 8 [.tmp 3] Tryz.func338
theorem aGW(I:List M.Field)(J:M.Field->Option Bool)(j:FuncId)(C:List D)(hp1:∀z0 r,J z0=some r->gL Tryz.prog j ((true,M.Field.en z0)::  C.map λc=>(false,[c])) [(false,[.ro (.bool r)])])(r:Int)(h:nB I J=some r):Sc 341 [(false,[.sl (List.map M.Field.en I)]),(false,[.fn j C])] [rI r]:=by
 have i1:=inv λm s=>∃U:Int,(s.t 0=vL M.Field.en I/\s.t 1=.v false [.dat (.fn j C)]/\s.t 7=vI (List.length I:Int)/\s.t 8=vI U)/\dF I J m U=some r
 have e1:=@dF.eq_2
 unfold nB at h
 exact sgo 19 [.tmp 4] Tryz.func341
instance:bK 560 (∀p0 p1 r (h:zE p0 p1=some r),Sc 560 [aX (M.aHH.en p0),aB p1] [rI r]):=⟨λp0 p1 r h=>by unfold zE at h;exact sgo 10 [.tmp 4] Tryz.func560⟩
instance:bK 205 (∀p0 p1 r (h:rJ p0 p1=some r),Sc 205 [aX (M.aHD.en p0),aX (M.aHD.en p1)] [rB r]):=⟨λp0 p1 r h=>by unfold rJ at h;exact sgo 24 [.tmp 4] Tryz.func205⟩
theorem aF7(I:List M.aHD)(J:M.aHD->Option Bool)(j:FuncId)(C:List D)(hp1:∀z0 r,J z0=some r->gL Tryz.prog j ((true,M.aHD.en z0)::  C.map λc=>(false,[c])) [(false,[.ro (.bool r)])])(r:Int)(h:lC I J=some r):Sc 327 [(false,[.sl (List.map M.aHD.en I)]),(false,[.fn j C])] [rI r]:=by
 have i1:=inv λm s=>∃U:Int,(s.t 0=vL M.aHD.en I/\s.t 1=.v false [.dat (.fn j C)]/\s.t 7=vI (List.length I:Int)/\s.t 8=vI U)/\cZ I J m U=some r
 have e1:=@cZ.eq_2
 unfold lC at h
 exact sgo 19 [.tmp 4] Tryz.func327
instance:bK 245 (∀p0 p1 r (h:mY p0 p1=some r),Sc 245 [aL enS p0,aS p1] [rI r]):=⟨λp0 p1 r h=>by
 have i1:=inv λm s=>∃v8:Int,(s.t 0=vL enS p0/\s.t 1=vS p1/\s.t 7=vI (List.length p0:Int)/\s.t 8=vI v8)/\cD p0 p1 m v8=some r
 have e1:=@cD.eq_2
 unfold mY at h
 exact sgo 19 [.tmp 4] Tryz.func245⟩
theorem c97(p0 r)(h:zO p0=some r):Sc 97 [aX (M.World.en p0)] [rI r]:=by unfold zO at h;exact sgo 9 [.tmp 2] Tryz.func97
theorem c99(p0 p1 p2 r)(h:rN p0 p1 p2=some r):Sc 99 [aX (M.aG9.en p0),aX (M.aHL.en p1),aB p2] [rI r]:=by unfold rN at h;exact sgo 17 [.tmp 6] Tryz.func99
instance:bK 250 (∀r (h:eX=some r),Sc 250 [] [(true,M.aHH.rs r)]):=⟨λr h=>by unfold eX at h;exact sgo 2 [.cell 0 189] Tryz.func250⟩
instance:bK 447 (∀p0 r (h:xG p0=some r),Sc 447 [aL enB p0] [rW 3 1 enI r]):=⟨λp0 r h=>by
 have i1:=inv λm s=>∃v11:Int,∃r8:List Int,∃u8:Nat,(s.t 3=vR 100008 u8/\s.t 9=vL enB p0/\s.t 10=vI (List.length p0:Int)/\s.t 11=vI v11/\s.h 100008=(u8,oW 3 1 enI r8))/\iN p0 m v11 r8=some r
 have e1:=@iN.eq_2
 unfold xG at h
 exact sgo 22 [.tmp 2] Tryz.func447⟩
theorem aGl(I:List M.aHM)(J:List M.aHM)(U:M.aHM->M.aHM->Option Bool)(j:FuncId)(C:List D)(hp2:∀z0 z1 r,U z0 z1=some r->gL Tryz.prog j ((true,M.aHM.en z0)::(true,M.aHM.en z1)::  C.map λc=>(false,[c])) [(false,[.ro (.bool r)])])(r:Bool)(h:mP I J U=some r):Sc 491 [(false,[.sl (List.map M.aHM.en I)]),(false,[.sl (List.map M.aHM.en J)]),(false,[.fn j C])] [rB r]:=by
 have i1:=inv λm s=>∃aa:Int,(s.t 1=vL M.aHM.en J/\s.t 2=.v false [.dat (.fn j C)]/\s.t 15=vL M.aHM.en I/\s.t 16=vI (List.length I:Int)/\s.t 17=vI aa)/\fM I J U m aa=some r
 have e1:=@fM.eq_2
 unfold mP at h
 exact sgo 32 [.tmp 6] Tryz.func491
theorem aGk(I:List M.aHU)(J:List M.aHU)(U:M.aHU->M.aHU->Option Bool)(j:FuncId)(C:List D)(hp2:∀z0 z1 r,U z0 z1=some r->gL Tryz.prog j ((true,M.aHU.en z0)::(true,M.aHU.en z1)::  C.map λc=>(false,[c])) [(false,[.ro (.bool r)])])(r:Bool)(h:lE I J U=some r):Sc 565 [(false,[.sl (List.map M.aHU.en I)]),(false,[.sl (List.map M.aHU.en J)]),(false,[.fn j C])] [rB r]:=by
 have i1:=inv λm s=>∃aa:Int,(s.t 1=vL M.aHU.en J/\s.t 2=.v false [.dat (.fn j C)]/\s.t 15=vL M.aHU.en I/\s.t 16=vI (List.length I:Int)/\s.t 17=vI aa)/\eK I J U m aa=some r
 have e1:=@eK.eq_2
 unfold lE at h
 exact sgo 32 [.tmp 6] Tryz.func565
instance:bK 448 (∀p0 p1 r (h:vO p0 p1=some r),Sc 448 [aL enB p0,aL enB p1] [rB r]):=⟨λp0 p1 r h=>by
 have i1:=inv λm s=>∃aa:Int,(s.t 0=vL enB p0/\s.t 1=vL enB p1/\s.t 12=vI (List.length p0:Int)/\s.t 13=vI aa)/\kZ p0 p1 m aa=some r
 have e1:=@kZ.eq_2
 unfold vO at h
 exact sgo 26 [.tmp 4] Tryz.func448⟩
theorem aCZ(I:List M.aC)(J:List M.aC)(U:M.aC->M.aC->Option Bool)(j:FuncId)(C:List D)(hp2:∀z0 z1 r,U z0 z1=some r->gL Tryz.prog j ((true,M.aC.en z0)::(true,M.aC.en z1)::  C.map λc=>(false,[c])) [(false,[.ro (.bool r)])])(r:Bool)(h:nG I J U=some r):Sc 567 [(false,[.sl (List.map M.aC.en I)]),(false,[.sl (List.map M.aC.en J)]),(false,[.fn j C])] [rB r]:=by
 have i1:=inv λm s=>∃aa:Int,(s.t 1=vL M.aC.en J/\s.t 2=.v false [.dat (.fn j C)]/\s.t 15=vL M.aC.en I/\s.t 16=vI (List.length I:Int)/\s.t 17=vI aa)/\fJ I J U m aa=some r
 have e1:=@fJ.eq_2
 unfold nG at h
 exact sgo 32 [.tmp 6] Tryz.func567
instance:bK 266 (∀p0 p1 r (h:oU p0 p1=some r),Sc 266 [aL M.bB.en p0,aL M.bB.en p1] [rB r]):=⟨λp0 p1 r h=>by
 have i1:=inv λm s=>∃aa:Int,(s.t 0=vL M.bB.en p0/\s.t 1=vL M.bB.en p1/\s.t 12=vI (List.length p0:Int)/\s.t 13=vI aa)/\jZ p0 p1 m aa=some r
 have e1:=@jZ.eq_2
 unfold oU at h
 exact sgo 26 [.tmp 4] Tryz.func266⟩
instance:bK 261 (∀p0 p1 r (h:rV p0 p1=some r),Sc 261 [aL M.aT.en p0,aL M.aT.en p1] [rB r]):=⟨λp0 p1 r h=>by
 have i1:=inv λm s=>∃aa:Int,(s.t 0=vL M.aT.en p0/\s.t 1=vL M.aT.en p1/\s.t 12=vI (List.length p0:Int)/\s.t 13=vI aa)/\iE p0 p1 m aa=some r
 have e1:=@iE.eq_2
 unfold rV at h
 exact sgo 26 [.tmp 4] Tryz.func261⟩
theorem aBW(p0 p1 r)(h:vT p0 p1=some r):Sc 115 [aL M.mI.en p0,aL M.mI.en p1] [rB r]:=by
 have i1:=inv λm s=>∃j:Int,(s.t 0=vL M.mI.en p0/\s.t 1=vL M.mI.en p1/\s.t 12=vI (List.length p0:Int)/\s.t 13=vI j)/\lA p0 p1 m j=some r
 have e1:=@lA.eq_2
 unfold vT at h
 exact sgo 26 [.tmp 4] Tryz.func115
theorem aFm(I:List M.aHL)(J:List M.aHL)(U:M.aHL->M.aHL->Option Bool)(j:FuncId)(C:List D)(hp2:∀z0 z1 r,U z0 z1=some r->gL Tryz.prog j ((true,M.aHL.en z0)::(true,M.aHL.en z1)::  C.map λc=>(false,[c])) [(false,[.ro (.bool r)])])(r:Bool)(h:oG I J U=some r):Sc 116 [(false,[.sl (List.map M.aHL.en I)]),(false,[.sl (List.map M.aHL.en J)]),(false,[.fn j C])] [rB r]:=by
 have i1:=inv λm s=>∃aa:Int,(s.t 1=vL M.aHL.en J/\s.t 2=.v false [.dat (.fn j C)]/\s.t 15=vL M.aHL.en I/\s.t 16=vI (List.length I:Int)/\s.t 17=vI aa)/\gB I J U m aa=some r
 have e1:=@gB.eq_2
 unfold oG at h
 exact sgo 32 [.tmp 6] Tryz.func116
instance:bK 263 (∀p0 p1 r (h:rY p0 p1=some r),Sc 263 [aL enS p0,aL enS p1] [rB r]):=⟨λp0 p1 r h=>by
 have i1:=inv λm s=>∃aa:Int,(s.t 0=vL enS p0/\s.t 1=vL enS p1/\s.t 12=vI (List.length p0:Int)/\s.t 13=vI aa)/\iD p0 p1 m aa=some r
 have e1:=@iD.eq_2
 unfold rY at h
 exact sgo 26 [.tmp 4] Tryz.func263⟩
theorem aGh(p0 c0 r)(h:xF p0 c0=some r):Sc 121 [aX (M.bC.en p0),(false,[.ptr [.int .i64 c0]])] [rB r]:=by unfold xF at h;exact sgo 8 [.tmp 3] Tryz.func121
theorem aGN(I:List M.bC)(J:M.bC->Option Bool)(j:FuncId)(C:List D)(hp1:∀z0 r,J z0=some r->gL Tryz.prog j ((true,M.bC.en z0)::  C.map λc=>(false,[c])) [(false,[.ro (.bool r)])])(r:Int)(h:oL I J=some r):Sc 120 [(false,[.sl (List.map M.bC.en I)]),(false,[.fn j C])] [rI r]:=by
 have i1:=inv λm s=>∃U:Int,(s.t 0=vL M.bC.en I/\s.t 1=.v false [.dat (.fn j C)]/\s.t 7=vI (List.length I:Int)/\s.t 8=vI U)/\dX I J m U=some r
 have e1:=@dX.eq_2
 unfold oL at h
 exact sgo 19 [.tmp 4] Tryz.func120
theorem aGH(I:List M.mI)(J:M.mI->Option Bool)(j:FuncId)(C:List D)(hp1:∀z0 r,J z0=some r->gL Tryz.prog j ((true,M.mI.en z0)::  C.map λc=>(false,[c])) [(false,[.ro (.bool r)])])(r:Int)(h:oF I J=some r):Sc 411 [(false,[.sl (List.map M.mI.en I)]),(false,[.fn j C])] [rI r]:=by
 have i1:=inv λm s=>∃U:Int,(s.t 0=vL M.mI.en I/\s.t 1=.v false [.dat (.fn j C)]/\s.t 7=vI (List.length I:Int)/\s.t 8=vI U)/\dS I J m U=some r
 have e1:=@dS.eq_2
 unfold oF at h
 exact sgo 19 [.tmp 4] Tryz.func411
