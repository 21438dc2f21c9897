/-
  Helper text. No conditions.
-/
import Derived.Test.YtbpbocchokbggaaGreatOpenedTi
set_option linter.all false
namespace Go.Proofs.YtbpbocchokbggaaGreat.gen
open Go Go.Sh
set_option maxRecDepth 20000
set_option maxHeartbeats 4000000
instance:bK 196 (∀p0 r (h:yQ p0=some r),Sc 196 [aX (M.aD.en p0)] [(true,M.aD.rs r)]):=⟨λp0 r h=>by unfold yQ at h;exact sgo 8 [.cell 2 129] Tryz.func196⟩
instance aBP:bK 185 (∀p0 r (h:tC p0=some r),Sc 185 [aX (M.aM.en p0)] [(true,M.aM.rs r)]):=⟨λp0 r h=>by unfold tC at h;exact sgo 8 [.cell 2 51] Tryz.func185⟩
instance:bK 187 (∀p0 r (h:AU p0=some r),Sc 187 [aX (M.aHL.en p0)] [(true,M.aHL.rs r)]):=⟨λp0 r h=>by unfold AU at h;exact sgo 9 [.cell 2 92] Tryz.func187⟩
instance OG:bK 240 (∀p0 p1 p2 r (h:aV p0 p1 p2=some r),Sc 240 [aI p0,aI p1,aI p2] [rB r]):=⟨λp0 p1 p2 r h=>by unfold aV at h;exact sgo 15 [.tmp 6] Tryz.func240⟩
theorem aGp(I:List M.aHU)(J:M.aHU->Option Bool)(j:FuncId)(C:List D)(hp1:∀z0 r,J z0=some r->gL Tryz.prog j ((true,M.aHU.en z0)::  C.map λc=>(false,[c])) [(false,[.ro (.bool r)])])(r:Int)(h:lK I J=some r):Sc 421 [(false,[.sl (List.map M.aHU.en I)]),(false,[.fn j C])] [rI r]:=by
 have i1:=inv λm s=>∃U:Int,(s.t 0=vL M.aHU.en I/\s.t 1=.v false [.dat (.fn j C)]/\s.t 7=vI (List.length I:Int)/\s.t 8=vI U)/\dA I J m U=some r
 have e1:=@dA.eq_2
 unfold lK at h
 exact sgo 19 [.tmp 4] Tryz.func421
instance:bK 533 (∀p0 r (h:zS p0=some r),Sc 533 [aS p0] [rB r]):=⟨λp0 r h=>by
 have i1:=inv λm s=>∃v3:Int,(s.t 0=vS p0/\s.t 3=vI v3)/\eG p0 m v3=some r
 have e1:=@eG.eq_2
 unfold zS at h
 exact sgo 36 [.tmp 2] Tryz.func533⟩
instance:bK 558 (∀p0 p1 r (h:wV p0 p1=some r),Sc 558 [aI p0,aI p1] [rI r]):=⟨λp0 p1 r h=>by unfold wV at h;exact sgo 13 [.tmp 4] Tryz.func558⟩
theorem aGr(I:List M.aC)(J:M.aC->Option Bool)(j:FuncId)(C:List D)(hp1:∀z0 r,J z0=some r->gL Tryz.prog j ((true,M.aC.en z0)::  C.map λc=>(false,[c])) [(false,[.ro (.bool r)])])(r:Int)(h:mT I J=some r):Sc 337 [(false,[.sl (List.map M.aC.en I)]),(false,[.fn j C])] [rI r]:=by
 have i1:=inv λm s=>∃U:Int,(s.t 0=vL M.aC.en I/\s.t 1=.v false [.dat (.fn j C)]/\s.t 7=vI (List.length I:Int)/\s.t 8=vI U)/\dI I J m U=some r
 have e1:=@dI.eq_2
 unfold mT at h
 exact sgo 19 [.tmp 4] Tryz.func337
instance:bK 526 (∀p0 p1 r (h:nX p0 p1=some r),Sc 526 [aL M.aN.en p0,aX (M.aN.en p1)] [rI r]):=⟨λp0 p1 r h=>by
 have i1:=inv λm s=>∃v8:Int,(s.t 0=vL M.aN.en p0/\s.t 3=vP 3 1 0/\s.t 7=vI (List.length p0:Int)/\s.t 8=vI v8/\s.h 3=(1,oX 471 (M.aN.en p1)))/\dU p0 p1 m v8=some r
 have e1:=@dU.eq_2
 unfold nX at h
 exact sgo 19 [.tmp 4] Tryz.func526⟩
theorem aGJ(p0 c0 r)(h:zQ p0 c0=some r):Sc 342 [aX (M.Field.en p0),(false,[.ptr [.str c0]])] [rB r]:=by unfold zQ at h;exact sgo 8 [.tmp 3] Tryz.func342
theorem aGT(p0 c0 c1 r)(h:uX p0 c0 c1=some r):Sc 328 [aX (M.aHD.en p0),(false,[.ptr [.str c0]]),(false,[.ptr [.str c1]])] [rB r]:=by unfold uX at h;exact sgo 15 [.tmp 4] Tryz.func328
theorem aGY(p0 c0 r)(h:wY p0 c0=some r):Sc 415 [aX (M.aHM.en p0),(false,[.ptr [.int .i64 c0]])] [rB r]:=by unfold wY at h;exact sgo 8 [.tmp 3] Tryz.func415
theorem aF9(I:List M.aHM)(J:M.aHM->Option Bool)(j:FuncId)(C:List D)(hp1:∀z0 r,J z0=some r->gL Tryz.prog j ((true,M.aHM.en z0)::  C.map λc=>(false,[c])) [(false,[.ro (.bool r)])])(r:Int)(h:mR I J=some r):Sc 414 [(false,[.sl (List.map M.aHM.en I)]),(false,[.fn j C])] [rI r]:=by
 have i1:=inv λm s=>∃U:Int,(s.t 0=vL M.aHM.en I/\s.t 1=.v false [.dat (.fn j C)]/\s.t 7=vI (List.length I:Int)/\s.t 8=vI U)/\dH I J m U=some r
 have e1:=@dH.eq_2
 unfold mR at h
 exact sgo 19 [.tmp 4] Tryz.func414
theorem aGo(I:List M.aHD)(J:List M.aHD)(U:M.aHD->M.aHD->Option Bool)(j:FuncId)(C:List D)(hp2:∀z0 z1 r,U z0 z1=some r->gL Tryz.prog j ((true,M.aHD.en z0)::(true,M.aHD.en z1)::  C.map λc=>(false,[c])) [(false,[.ro (.bool r)])])(r:Bool)(h:lF I J U=some r):Sc 259 [(false,[.sl (List.map M.aHD.en I)]),(false,[.sl (List.map M.aHD.en J)]),(false,[.fn j C])] [rB r]:=by
 have i1:=inv λm s=>∃aa:Int,(s.t 1=vL M.aHD.en J/\s.t 2=.v false [.dat (.fn j C)]/\s.t 15=vL M.aHD.en I/\s.t 16=vI (List.length I:Int)/\s.t 17=vI aa)/\eJ I J U m aa=some r
 have e1:=@eJ.eq_2
 unfold lF at h
 exact sgo 32 [.tmp 6] Tryz.func259
theorem aGc(I:List M.aHV)(J:List M.aHV)(U:M.aHV->M.aHV->Option Bool)(j:FuncId)(C:List D)(hp2:∀z0 z1 r,U z0 z1=some r->gL Tryz.prog j ((true,M.aHV.en z0)::(true,M.aHV.en z1)::  C.map λc=>(false,[c])) [(false,[.ro (.bool r)])])(r:Bool)(h:nT I J U=some r):Sc 405 [(false,[.sl (List.map M.aHV.en I)]),(false,[.sl (List.map M.aHV.en J)]),(false,[.fn j C])] [rB r]:=by
 have i1:=inv λm s=>∃aa:Int,(s.t 1=vL M.aHV.en J/\s.t 2=.v false [.dat (.fn j C)]/\s.t 15=vL M.aHV.en I/\s.t 16=vI (List.length I:Int)/\s.t 17=vI aa)/\gA I J U m aa=some r
 have e1:=@gA.eq_2
 unfold nT at h
 exact sgo 32 [.tmp 6] Tryz.func405
instance:bK 570 (∀p0 p1 r (h:tY p0 p1=some r),Sc 570 [aL M.Field.en p0,aL M.Field.en p1] [rB r]):=⟨λp0 p1 r h=>by
 have i1:=inv λm s=>∃aa:Int,(s.t 0=vL M.Field.en p0/\s.t 1=vL M.Field.en p1/\s.t 12=vI (List.length p0:Int)/\s.t 13=vI aa)/\kJ p0 p1 m aa=some r
 have e1:=@kJ.eq_2
 unfold tY at h
 exact sgo 26 [.tmp 4] Tryz.func570⟩
theorem aF6(p0 p1 r)(h:oH p0 p1=some r):Sc 568 [aL M.aN.en p0,aL M.aN.en p1] [rB r]:=by
 have i1:=inv λm s=>∃j:Int,(s.t 0=vL M.aN.en p0/\s.t 1=vL M.aN.en p1/\s.t 12=vI (List.length p0:Int)/\s.t 13=vI j)/\fZ p0 p1 m j=some r
 have e1:=@fZ.eq_2
 unfold oH at h
 exact sgo 26 [.tmp 4] Tryz.func568
theorem Zu(I:List M.bC)(J:List M.bC)(U:M.bC->M.bC->Option Bool)(j:FuncId)(C:List D)(hp2:∀z0 z1 r,U z0 z1=some r->gL Tryz.prog j ((true,M.bC.en z0)::(true,M.bC.en z1)::  C.map λc=>(false,[c])) [(false,[.ro (.bool r)])])(r:Bool)(h:nR I J U=some r):Sc 112 [(false,[.sl (List.map M.bC.en I)]),(false,[.sl (List.map M.bC.en J)]),(false,[.fn j C])] [rB r]:=by
 have i1:=inv λm s=>∃aa:Int,(s.t 1=vL M.bC.en J/\s.t 2=.v false [.dat (.fn j C)]/\s.t 15=vL M.bC.en I/\s.t 16=vI (List.length I:Int)/\s.t 17=vI aa)/\gC I J U m aa=some r
 have e1:=@gC.eq_2
 unfold nR at h
 exact sgo 32 [.tmp 6] Tryz.func112
instance:bK 403 (∀p0 p1 r (h:tW p0 p1=some r),Sc 403 [aL M.Instr.en p0,aL M.Instr.en p1] [rB r]):=⟨λp0 p1 r h=>by
 have i1:=inv λm s=>∃aa:Int,(s.t 0=vL M.Instr.en p0/\s.t 1=vL M.Instr.en p1/\s.t 12=vI (List.length p0:Int)/\s.t 13=vI aa)/\kF p0 p1 m aa=some r
 have e1:=@kF.eq_2
 unfold tW at h
 exact sgo 26 [.tmp 4] Tryz.func403⟩
instance:bK 404 (∀p0 p1 r (h:xB p0 p1=some r),Sc 404 [aL enI p0,aL enI p1] [rB r]):=⟨λp0 p1 r h=>by
 have i1:=inv λm s=>∃aa:Int,(s.t 0=vL enI p0/\s.t 1=vL enI p1/\s.t 12=vI (List.length p0:Int)/\s.t 13=vI aa)/\mV p0 p1 m aa=some r
 have e1:=@mV.eq_2
 unfold xB at h
 exact sgo 26 [.tmp 4] Tryz.func404⟩
theorem aAW(p0 p1 r)(h:vG p0 p1=some r):Sc 114 [aL M.dO.en p0,aL M.dO.en p1] [rB r]:=by
 have i1:=inv λm s=>∃j:Int,(s.t 0=vL M.dO.en p0/\s.t 1=vL M.dO.en p1/\s.t 12=vI (List.length p0:Int)/\s.t 13=vI j)/\lB p0 p1 m j=some r
 have e1:=@lB.eq_2
 unfold vG at h
 exact sgo 26 [.tmp 4] Tryz.func114
theorem aGm(I:List M.aHO)(J:List M.aHO)(U:M.aHO->M.aHO->Option Bool)(j:FuncId)(C:List D)(hp2:∀z0 z1 r,U z0 z1=some r->gL Tryz.prog j ((true,M.aHO.en z0)::(true,M.aHO.en z1)::  C.map λc=>(false,[c])) [(false,[.ro (.bool r)])])(r:Bool)(h:lI I J U=some r):Sc 118 [(false,[.sl (List.map M.aHO.en I)]),(false,[.sl (List.map M.aHO.en J)]),(false,[.fn j C])] [rB r]:=by
 have i1:=inv λm s=>∃aa:Int,(s.t 1=vL M.aHO.en J/\s.t 2=.v false [.dat (.fn j C)]/\s.t 15=vL M.aHO.en I/\s.t 16=vI (List.length I:Int)/\s.t 17=vI aa)/\eH I J U m aa=some r
 have e1:=@eH.eq_2
 unfold lI at h
 exact sgo 32 [.tmp 6] Tryz.func118
instance:bK 265 (∀p0 p1 r (h:pK p0 p1=some r),Sc 265 [aL M.aO.en p0,aL M.aO.en p1] [rB r]):=⟨λp0 p1 r h=>by
 have i1:=inv λm s=>∃aa:Int,(s.t 0=vL M.aO.en p0/\s.t 1=vL M.aO.en p1/\s.t 12=vI (List.length p0:Int)/\s.t 13=vI aa)/\gP p0 p1 m aa=some r
 have e1:=@gP.eq_2
 unfold pK at h
 exact sgo 26 [.tmp 4] Tryz.func265⟩
theorem aGi(p0 c0 r)(h:rZ p0 c0=some r):Sc 272 [aX (M.dO.en p0),(false,[.ptr [.int .i64 c0]])] [rB r]:=by unfold rZ at h;exact sgo 8 [.tmp 3] Tryz.func272
theorem aGf(I:List M.dO)(J:M.dO->Option Bool)(j:FuncId)(C:List D)(hp1:∀z0 r,J z0=some r->gL Tryz.prog j ((true,M.dO.en z0)::  C.map λc=>(false,[c])) [(false,[.ro (.bool r)])])(r:Int)(h:oO I J=some r):Sc 409 [(false,[.sl (List.map M.dO.en I)]),(false,[.fn j C])] [rI r]:=by
 have i1:=inv λm s=>∃U:Int,(s.t 0=vL M.dO.en I/\s.t 1=.v false [.dat (.fn j C)]/\s.t 7=vI (List.length I:Int)/\s.t 8=vI U)/\dW I J m U=some r
 have e1:=@dW.eq_2
 unfold oO at h
 exact sgo 19 [.tmp 4] Tryz.func409
instance:bK 410 (∀p0 p1 r (h:BC p0 p1=some r),Sc 410 [aX (M.aM.en p0),aI p1] [rB r]):=⟨λp0 p1 r h=>by
 have i1:=inv λm s=>∃aa:Int,(s.t 1=vI p1/\s.t 2=vP 2 1 0/\s.t 10=vL M.dO.en (List.take p1.toNat p0.aHR)/\s.t 11=vI (List.length (List.take p1.toNat p0.aHR):Int)/\s.t 12=vI aa/\s.h 2=(1,oX 51 (M.aM.en p0)))/\nD p0 p1 m aa=some r
 have e1:=@nD.eq_2
 unfold BC at h
 exact sgo 45 [.tmp 4] Tryz.func410⟩
theorem aGq(p0 c0 r)(h:wS p0 c0=some r):Sc 275 [aX (M.mI.en p0),(false,[.ptr [.int .i64 c0]])] [rB r]:=by unfold wS at h;exact sgo 8 [.tmp 3] Tryz.func275
