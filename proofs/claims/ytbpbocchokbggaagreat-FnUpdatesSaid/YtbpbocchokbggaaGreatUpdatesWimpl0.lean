/-
  Helper text. No conditions.
-/
import Derived.Test.YtbpbocchokbggaaGreatUpdatesTi
set_option linter.all false
namespace Go.Proofs.YtbpbocchokbggaaGreat.gen
open Go Go.Sh
set_option maxRecDepth 20000
set_option maxHeartbeats 4000000
instance:bE 534 (∀p0 r (h:zT p0=some r),Sc 534 [aX (M.aK.en p0)] [(true,M.aK.rs r)]):=⟨λp0 r h=>by unfold zT at h;exact sgo 9 [.cell 2 120] Tryz.func534⟩
instance:bE 276 (∀p0 r (h:xZ p0=some r),Sc 276 [aX (M.aJH.en p0)] [(true,M.aJH.rs r)]):=⟨λp0 r h=>by unfold xZ at h;exact sgo 16 [.cell 2 65] Tryz.func276⟩
instance:bE 186 (∀p0 r (h:yB p0=some r),Sc 186 [aX (M.aJD.en p0)] [(true,M.aJD.rs r)]):=⟨λp0 r h=>by unfold yB at h;exact sgo 8 [.cell 2 54] Tryz.func186⟩
theorem aH5(I:List M.aI3)(J:M.aI3->Option Bool)(j:FuncId)(C:List D)(hp1:∀z0 r,J z0=some r->kD Tryz.prog j ((true,M.aI3.en z0)::  C.map λc=>(false,[c])) [(false,[.ro (.bool r)])])(r:Int)(h:lN I J=some r):Sc 327 [(false,[.sl (List.map M.aI3.en I)]),(false,[.fn j C])] [rI r]:=by
 have i1:=inv λm s=>∃U:Int,(s.t 0=vL M.aI3.en I/\s.t 1=.v false [.dat (.fn j C)]/\s.t 7=vI (List.length I:Int)/\s.t 8=vI U)/\dI I J m U=some r
 have e1:=@dI.eq_2
 unfold lN at h
 exact sgo 19 [.tmp 4] Tryz.func327
instance:bE 245 (∀p0 p1 r (h:nM p0 p1=some r),Sc 245 [aL enS p0,aS p1] [rI r]):=⟨λp0 p1 r h=>by
 have i1:=inv λm s=>∃v8:Int,(s.t 0=vL enS p0/\s.t 1=vS p1/\s.t 7=vI (List.length p0:Int)/\s.t 8=vI v8)/\cM p0 p1 m v8=some r
 have e1:=@cM.eq_2
 unfold nM at h
 exact sgo 19 [.tmp 4] Tryz.func245⟩
instance aBN:bE 240 (∀p0 p1 p2 r (h:aZ p0 p1 p2=some r),Sc 240 [aI p0,aI p1,aI p2] [rB r]):=⟨λp0 p1 p2 r h=>by unfold aZ at h;exact sgo 15 [.tmp 6] Tryz.func240⟩
theorem aIG(p0 c0 c1 r)(h:wV p0 c0 c1=some r):Sc 422 [aX (M.aJE.en p0),(false,[.ptr [.str c0]]),(false,[.ptr [.str c1]])] [rB r]:=by unfold wV at h;exact sgo 15 [.tmp 4] Tryz.func422
instance:bE 558 (∀p0 p1 r (h:xQ p0 p1=some r),Sc 558 [aI p0,aI p1] [rI r]):=⟨λp0 p1 r h=>by unfold xQ at h;exact sgo 13 [.tmp 4] Tryz.func558⟩
theorem aIj(I:List M.aD)(J:M.aD->Option Bool)(j:FuncId)(C:List D)(hp1:∀z0 r,J z0=some r->kD Tryz.prog j ((true,M.aD.en z0)::  C.map λc=>(false,[c])) [(false,[.ro (.bool r)])])(r:Int)(h:nI I J=some r):Sc 337 [(false,[.sl (List.map M.aD.en I)]),(false,[.fn j C])] [rI r]:=by
 have i1:=inv λm s=>∃U:Int,(s.t 0=vL M.aD.en I/\s.t 1=.v false [.dat (.fn j C)]/\s.t 7=vI (List.length I:Int)/\s.t 8=vI U)/\dV I J m U=some r
 have e1:=@dV.eq_2
 unfold nI at h
 exact sgo 19 [.tmp 4] Tryz.func337
instance:bE 526 (∀p0 p1 r (h:oH p0 p1=some r),Sc 526 [aL M.aN.en p0,aX (M.aN.en p1)] [rI r]):=⟨λp0 p1 r h=>by
 have i1:=inv λm s=>∃v8:Int,(s.t 0=vL M.aN.en p0/\s.t 3=vP 3 1 0/\s.t 7=vI (List.length p0:Int)/\s.t 8=vI v8/\s.h 3=(1,oX 471 (M.aN.en p1)))/\eC p0 p1 m v8=some r
 have e1:=@eC.eq_2
 unfold oH at h
 exact sgo 19 [.tmp 4] Tryz.func526⟩
theorem aIF(p0 c0 r)(h:Al p0 c0=some r):Sc 342 [aX (M.Field.en p0),(false,[.ptr [.str c0]])] [rB r]:=by unfold Al at h;exact sgo 8 [.tmp 3] Tryz.func342
instance:bE 560 (∀p0 p1 r (h:zW p0 p1=some r),Sc 560 [aX (M.aI8.en p0),aB p1] [rI r]):=⟨λp0 p1 r h=>by unfold zW at h;exact sgo 10 [.tmp 4] Tryz.func560⟩
instance:bE 205 (∀p0 p1 r (h:rR p0 p1=some r),Sc 205 [aX (M.aI3.en p0),aX (M.aI3.en p1)] [rB r]):=⟨λp0 p1 r h=>by unfold rR at h;exact sgo 24 [.tmp 4] Tryz.func205⟩
instance:bE 447 (∀p0 r (h:yD p0=some r),Sc 447 [aL enB p0] [rW 3 1 enI r]):=⟨λp0 r h=>by
 have i1:=inv λm s=>∃v11:Int,∃r8:List Int,∃u8:Nat,(s.t 3=vR 100008 u8/\s.t 9=vL enB p0/\s.t 10=vI (List.length p0:Int)/\s.t 11=vI v11/\s.h 100008=(u8,oW 3 1 enI r8))/\iX p0 m v11 r8=some r
 have e1:=@iX.eq_2
 unfold yD at h
 exact sgo 22 [.tmp 2] Tryz.func447⟩
theorem aIQ(p0 c0 r)(h:xU p0 c0=some r):Sc 415 [aX (M.aI5.en p0),(false,[.ptr [.int .i64 c0]])] [rB r]:=by unfold xU at h;exact sgo 8 [.tmp 3] Tryz.func415
theorem aH6(I:List M.aI5)(J:M.aI5->Option Bool)(j:FuncId)(C:List D)(hp1:∀z0 r,J z0=some r->kD Tryz.prog j ((true,M.aI5.en z0)::  C.map λc=>(false,[c])) [(false,[.ro (.bool r)])])(r:Int)(h:nG I J=some r):Sc 414 [(false,[.sl (List.map M.aI5.en I)]),(false,[.fn j C])] [rI r]:=by
 have i1:=inv λm s=>∃U:Int,(s.t 0=vL M.aI5.en I/\s.t 1=.v false [.dat (.fn j C)]/\s.t 7=vI (List.length I:Int)/\s.t 8=vI U)/\dU I J m U=some r
 have e1:=@dU.eq_2
 unfold nG at h
 exact sgo 19 [.tmp 4] Tryz.func414
theorem aIh(I:List M.aI3)(J:List M.aI3)(U:M.aI3->M.aI3->Option Bool)(j:FuncId)(C:List D)(hp2:∀z0 z1 r,U z0 z1=some r->kD Tryz.prog j ((true,M.aI3.en z0)::(true,M.aI3.en z1)::  C.map λc=>(false,[c])) [(false,[.ro (.bool r)])])(r:Bool)(h:lR I J U=some r):Sc 259 [(false,[.sl (List.map M.aI3.en I)]),(false,[.sl (List.map M.aI3.en J)]),(false,[.fn j C])] [rB r]:=by
 have i1:=inv λm s=>∃aa:Int,(s.t 1=vL M.aI3.en J/\s.t 2=.v false [.dat (.fn j C)]/\s.t 15=vL M.aI3.en I/\s.t 16=vI (List.length I:Int)/\s.t 17=vI aa)/\eO I J U m aa=some r
 have e1:=@eO.eq_2
 unfold lR at h
 exact sgo 32 [.tmp 6] Tryz.func259
theorem aIV(I:List M.aJN)(J:List M.aJN)(U:M.aJN->M.aJN->Option Bool)(j:FuncId)(C:List D)(hp2:∀z0 z1 r,U z0 z1=some r->kD Tryz.prog j ((true,M.aJN.en z0)::(true,M.aJN.en z1)::  C.map λc=>(false,[c])) [(false,[.ro (.bool r)])])(r:Bool)(h:oC I J U=some r):Sc 405 [(false,[.sl (List.map M.aJN.en I)]),(false,[.sl (List.map M.aJN.en J)]),(false,[.fn j C])] [rB r]:=by
 have i1:=inv λm s=>∃aa:Int,(s.t 1=vL M.aJN.en J/\s.t 2=.v false [.dat (.fn j C)]/\s.t 15=vL M.aJN.en I/\s.t 16=vI (List.length I:Int)/\s.t 17=vI aa)/\gC I J U m aa=some r
 have e1:=@gC.eq_2
 unfold oC at h
 exact sgo 32 [.tmp 6] Tryz.func405
instance:bE 266 (∀p0 p1 r (h:pB p0 p1=some r),Sc 266 [aL M.bC.en p0,aL M.bC.en p1] [rB r]):=⟨λp0 p1 r h=>by
 have i1:=inv λm s=>∃aa:Int,(s.t 0=vL M.bC.en p0/\s.t 1=vL M.bC.en p1/\s.t 12=vI (List.length p0:Int)/\s.t 13=vI aa)/\kF p0 p1 m aa=some r
 have e1:=@kF.eq_2
 unfold pB at h
 exact sgo 26 [.tmp 4] Tryz.func266⟩
theorem aAz(I:List M.bG)(J:List M.bG)(U:M.bG->M.bG->Option Bool)(j:FuncId)(C:List D)(hp2:∀z0 z1 r,U z0 z1=some r->kD Tryz.prog j ((true,M.bG.en z0)::(true,M.bG.en z1)::  C.map λc=>(false,[c])) [(false,[.ro (.bool r)])])(r:Bool)(h:oA I J U=some r):Sc 112 [(false,[.sl (List.map M.bG.en I)]),(false,[.sl (List.map M.bG.en J)]),(false,[.fn j C])] [rB r]:=by
 have i1:=inv λm s=>∃aa:Int,(s.t 1=vL M.bG.en J/\s.t 2=.v false [.dat (.fn j C)]/\s.t 15=vL M.bG.en I/\s.t 16=vI (List.length I:Int)/\s.t 17=vI aa)/\gE I J U m aa=some r
 have e1:=@gE.eq_2
 unfold oA at h
 exact sgo 32 [.tmp 6] Tryz.func112
instance:bE 261 (∀p0 p1 r (h:sA p0 p1=some r),Sc 261 [aL M.aV.en p0,aL M.aV.en p1] [rB r]):=⟨λp0 p1 r h=>by
 have i1:=inv λm s=>∃aa:Int,(s.t 0=vL M.aV.en p0/\s.t 1=vL M.aV.en p1/\s.t 12=vI (List.length p0:Int)/\s.t 13=vI aa)/\iM p0 p1 m aa=some r
 have e1:=@iM.eq_2
 unfold sA at h
 exact sgo 26 [.tmp 4] Tryz.func261⟩
instance:bE 404 (∀p0 p1 r (h:xY p0 p1=some r),Sc 404 [aL enI p0,aL enI p1] [rB r]):=⟨λp0 p1 r h=>by
 have i1:=inv λm s=>∃aa:Int,(s.t 0=vL enI p0/\s.t 1=vL enI p1/\s.t 12=vI (List.length p0:Int)/\s.t 13=vI aa)/\nJ p0 p1 m aa=some r
 have e1:=@nJ.eq_2
 unfold xY at h
 exact sgo 26 [.tmp 4] Tryz.func404⟩
theorem aC8(p0 p1 r)(h:wK p0 p1=some r):Sc 115 [aL M.AP.en p0,aL M.AP.en p1] [rB r]:=by
 have i1:=inv λm s=>∃j:Int,(s.t 0=vL M.AP.en p0/\s.t 1=vL M.AP.en p1/\s.t 12=vI (List.length p0:Int)/\s.t 13=vI j)/\lK p0 p1 m j=some r
 have e1:=@lK.eq_2
 unfold wK at h
 exact sgo 26 [.tmp 4] Tryz.func115
instance:bE 263 (∀p0 p1 r (h:sB p0 p1=some r),Sc 263 [aL enS p0,aL enS p1] [rB r]):=⟨λp0 p1 r h=>by
 have i1:=inv λm s=>∃aa:Int,(s.t 0=vL enS p0/\s.t 1=vL enS p1/\s.t 12=vI (List.length p0:Int)/\s.t 13=vI aa)/\iL p0 p1 m aa=some r
 have e1:=@iL.eq_2
 unfold sB at h
 exact sgo 26 [.tmp 4] Tryz.func263⟩
theorem aIg(I:List M.aJC)(J:List M.aJC)(U:M.aJC->M.aJC->Option Bool)(j:FuncId)(C:List D)(hp2:∀z0 z1 r,U z0 z1=some r->kD Tryz.prog j ((true,M.aJC.en z0)::(true,M.aJC.en z1)::  C.map λc=>(false,[c])) [(false,[.ro (.bool r)])])(r:Bool)(h:lU I J U=some r):Sc 118 [(false,[.sl (List.map M.aJC.en I)]),(false,[.sl (List.map M.aJC.en J)]),(false,[.fn j C])] [rB r]:=by
 have i1:=inv λm s=>∃aa:Int,(s.t 1=vL M.aJC.en J/\s.t 2=.v false [.dat (.fn j C)]/\s.t 15=vL M.aJC.en I/\s.t 16=vI (List.length I:Int)/\s.t 17=vI aa)/\eN I J U m aa=some r
 have e1:=@eN.eq_2
 unfold lU at h
 exact sgo 32 [.tmp 6] Tryz.func118
