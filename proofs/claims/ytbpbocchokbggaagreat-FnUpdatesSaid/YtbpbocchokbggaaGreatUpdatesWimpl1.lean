/-
  Helper text. No conditions.
-/
import Derived.Test.YtbpbocchokbggaaGreatUpdatesTi
set_option linter.all false
namespace Go.Proofs.YtbpbocchokbggaaGreat.gen
open Go Go.Sh
set_option maxRecDepth 20000
set_option maxHeartbeats 4000000
instance:bE 346 (∀p0 r (h:mB p0=some r),Sc 346 [aL enB p0] [rW 5 1 enB r]):=⟨λp0 r h=>by unfold mB at h;exact sgo 6 [.tmp 2] Tryz.func346⟩
instance:bE 196 (∀p0 r (h:zM p0=some r),Sc 196 [aX (M.aE.en p0)] [(true,M.aE.rs r)]):=⟨λp0 r h=>by unfold zM at h;exact sgo 8 [.cell 2 129] Tryz.func196⟩
instance:bE 185 (∀p0 r (h:Ao p0=some r),Sc 185 [aX (M.aQ.en p0)] [(true,M.aQ.rs r)]):=⟨λp0 r h=>by unfold Ao at h;exact sgo 8 [.cell 2 51] Tryz.func185⟩
instance:bE 187 (∀p0 r (h:sE p0=some r),Sc 187 [aX (M.aI7.en p0)] [(true,M.aI7.rs r)]):=⟨λp0 r h=>by unfold sE at h;exact sgo 9 [.cell 2 92] Tryz.func187⟩
theorem aIM(p0 c0 c1 r)(h:vQ p0 c0 c1=some r):Sc 328 [aX (M.aI3.en p0),(false,[.ptr [.str c0]]),(false,[.ptr [.str c1]])] [rB r]:=by unfold vQ at h;exact sgo 15 [.tmp 4] Tryz.func328
theorem aIi(I:List M.aJE)(J:M.aJE->Option Bool)(j:FuncId)(C:List D)(hp1:∀z0 r,J z0=some r->kD Tryz.prog j ((true,M.aJE.en z0)::  C.map λc=>(false,[c])) [(false,[.ro (.bool r)])])(r:Int)(h:lW I J=some r):Sc 421 [(false,[.sl (List.map M.aJE.en I)]),(false,[.fn j C])] [rI r]:=by
 have i1:=inv λm s=>∃U:Int,(s.t 0=vL M.aJE.en I/\s.t 1=.v false [.dat (.fn j C)]/\s.t 7=vI (List.length I:Int)/\s.t 8=vI U)/\dJ I J m U=some r
 have e1:=@dJ.eq_2
 unfold lW at h
 exact sgo 19 [.tmp 4] Tryz.func421
instance:bE 533 (∀p0 r (h:An p0=some r),Sc 533 [aS p0] [rB r]):=⟨λp0 r h=>by
 have i1:=inv λm s=>∃v3:Int,(s.t 0=vS p0/\s.t 3=vI v3)/\eM p0 m v3=some r
 have e1:=@eM.eq_2
 unfold An at h
 exact sgo 36 [.tmp 2] Tryz.func533⟩
set_option maxRecDepth 100000 in
theorem aGp (j:ByteArray) (C:ByteArray) (r:Int) (h:pN j C=some r):kD Tryz.prog 608 [(false,[.str j]),(false,[.str C])] [(false,[.ro (.int .i64 r)])]:=by
 refine R8 Tryz.func608 rfl jF λw => ?_
 cases h
 go_enter Tryz.func608,Tryz.ntmps608
 go_wp2
 rw [run_callFunc_extern Tryz.func632 (by kernel_rfl) (by kernel_rfl) (by kernel_rfl) (e:=Extern.BytealgCompare.compare) (by kernel_rfl),Lib.run_compareString]
 simp only [Result.andThen]
 rw [Oper.upon_value]
 go_wp2
 go_ret
 exact ⟨rfl,rfl⟩
instance:bE 608 (type_of%@aGp):=⟨@aGp⟩
theorem aIq(p0 c0 r)(h:xS p0 c0=some r):Sc 338 [aX (M.aD.en p0),(false,[.ptr [.str c0]])] [rB r]:=by unfold xS at h;exact sgo 8 [.tmp 3] Tryz.func338
theorem aIO(I:List M.Field)(J:M.Field->Option Bool)(j:FuncId)(C:List D)(hp1:∀z0 r,J z0=some r->kD Tryz.prog j ((true,M.Field.en z0)::  C.map λc=>(false,[c])) [(false,[.ro (.bool r)])])(r:Int)(h:nP I J=some r):Sc 341 [(false,[.sl (List.map M.Field.en I)]),(false,[.fn j C])] [rI r]:=by
 have i1:=inv λm s=>∃U:Int,(s.t 0=vL M.Field.en I/\s.t 1=.v false [.dat (.fn j C)]/\s.t 7=vI (List.length I:Int)/\s.t 8=vI U)/\dP I J m U=some r
 have e1:=@dP.eq_2
 unfold nP at h
 exact sgo 19 [.tmp 4] Tryz.func341
instance:bE 133 (∀p0 r (h:uA p0=some r),Sc 133 [aX (M.aIz.en p0)] [rI r]):=⟨λp0 r h=>by unfold uA at h;exact sgo 10 [.tmp 2] Tryz.func133⟩
instance:bE 250 (∀r (h:kW=some r),Sc 250 [] [(true,M.aI8.rs r)]):=⟨λr h=>by unfold kW at h;exact sgo 2 [.cell 0 189] Tryz.func250⟩
theorem aIf(I:List M.aI5)(J:List M.aI5)(U:M.aI5->M.aI5->Option Bool)(j:FuncId)(C:List D)(hp2:∀z0 z1 r,U z0 z1=some r->kD Tryz.prog j ((true,M.aI5.en z0)::(true,M.aI5.en z1)::  C.map λc=>(false,[c])) [(false,[.ro (.bool r)])])(r:Bool)(h:nF I J U=some r):Sc 491 [(false,[.sl (List.map M.aI5.en I)]),(false,[.sl (List.map M.aI5.en J)]),(false,[.fn j C])] [rB r]:=by
 have i1:=inv λm s=>∃aa:Int,(s.t 1=vL M.aI5.en J/\s.t 2=.v false [.dat (.fn j C)]/\s.t 15=vL M.aI5.en I/\s.t 16=vI (List.length I:Int)/\s.t 17=vI aa)/\fN I J U m aa=some r
 have e1:=@fN.eq_2
 unfold nF at h
 exact sgo 32 [.tmp 6] Tryz.func491
theorem aIc(I:List M.aJE)(J:List M.aJE)(U:M.aJE->M.aJE->Option Bool)(j:FuncId)(C:List D)(hp2:∀z0 z1 r,U z0 z1=some r->kD Tryz.prog j ((true,M.aJE.en z0)::(true,M.aJE.en z1)::  C.map λc=>(false,[c])) [(false,[.ro (.bool r)])])(r:Bool)(h:lP I J U=some r):Sc 565 [(false,[.sl (List.map M.aJE.en I)]),(false,[.sl (List.map M.aJE.en J)]),(false,[.fn j C])] [rB r]:=by
 have i1:=inv λm s=>∃aa:Int,(s.t 1=vL M.aJE.en J/\s.t 2=.v false [.dat (.fn j C)]/\s.t 15=vL M.aJE.en I/\s.t 16=vI (List.length I:Int)/\s.t 17=vI aa)/\eP I J U m aa=some r
 have e1:=@eP.eq_2
 unfold lP at h
 exact sgo 32 [.tmp 6] Tryz.func565
instance:bE 448 (∀p0 p1 r (h:wH p0 p1=some r),Sc 448 [aL enB p0,aL enB p1] [rB r]):=⟨λp0 p1 r h=>by
 have i1:=inv λm s=>∃aa:Int,(s.t 0=vL enB p0/\s.t 1=vL enB p1/\s.t 12=vI (List.length p0:Int)/\s.t 13=vI aa)/\lJ p0 p1 m aa=some r
 have e1:=@lJ.eq_2
 unfold wH at h
 exact sgo 26 [.tmp 4] Tryz.func448⟩
theorem aEH(I:List M.aD)(J:List M.aD)(U:M.aD->M.aD->Option Bool)(j:FuncId)(C:List D)(hp2:∀z0 z1 r,U z0 z1=some r->kD Tryz.prog j ((true,M.aD.en z0)::(true,M.aD.en z1)::  C.map λc=>(false,[c])) [(false,[.ro (.bool r)])])(r:Bool)(h:nS I J U=some r):Sc 567 [(false,[.sl (List.map M.aD.en I)]),(false,[.sl (List.map M.aD.en J)]),(false,[.fn j C])] [rB r]:=by
 have i1:=inv λm s=>∃aa:Int,(s.t 1=vL M.aD.en J/\s.t 2=.v false [.dat (.fn j C)]/\s.t 15=vL M.aD.en I/\s.t 16=vI (List.length I:Int)/\s.t 17=vI aa)/\fJ I J U m aa=some r
 have e1:=@fJ.eq_2
 unfold nS at h
 exact sgo 32 [.tmp 6] Tryz.func567
instance:bE 570 (∀p0 p1 r (h:uF p0 p1=some r),Sc 570 [aL M.Field.en p0,aL M.Field.en p1] [rB r]):=⟨λp0 p1 r h=>by
 have i1:=inv λm s=>∃aa:Int,(s.t 0=vL M.Field.en p0/\s.t 1=vL M.Field.en p1/\s.t 12=vI (List.length p0:Int)/\s.t 13=vI aa)/\kP p0 p1 m aa=some r
 have e1:=@kP.eq_2
 unfold uF at h
 exact sgo 26 [.tmp 4] Tryz.func570⟩
theorem aH4(p0 p1 r)(h:oR p0 p1=some r):Sc 568 [aL M.aN.en p0,aL M.aN.en p1] [rB r]:=by
 have i1:=inv λm s=>∃j:Int,(s.t 0=vL M.aN.en p0/\s.t 1=vL M.aN.en p1/\s.t 12=vI (List.length p0:Int)/\s.t 13=vI j)/\gB p0 p1 m j=some r
 have e1:=@gB.eq_2
 unfold oR at h
 exact sgo 26 [.tmp 4] Tryz.func568
instance:bE 403 (∀p0 p1 r (h:tZ p0 p1=some r),Sc 403 [aL M.Instr.en p0,aL M.Instr.en p1] [rB r]):=⟨λp0 p1 r h=>by
 have i1:=inv λm s=>∃aa:Int,(s.t 0=vL M.Instr.en p0/\s.t 1=vL M.Instr.en p1/\s.t 12=vI (List.length p0:Int)/\s.t 13=vI aa)/\kL p0 p1 m aa=some r
 have e1:=@kL.eq_2
 unfold tZ at h
 exact sgo 26 [.tmp 4] Tryz.func403⟩
theorem aB7(p0 p1 r)(h:wA p0 p1=some r):Sc 114 [aL M.mV.en p0,aL M.mV.en p1] [rB r]:=by
 have i1:=inv λm s=>∃j:Int,(s.t 0=vL M.mV.en p0/\s.t 1=vL M.mV.en p1/\s.t 12=vI (List.length p0:Int)/\s.t 13=vI j)/\lL p0 p1 m j=some r
 have e1:=@lL.eq_2
 unfold wA at h
 exact sgo 26 [.tmp 4] Tryz.func114
theorem aHi(I:List M.aI7)(J:List M.aI7)(U:M.aI7->M.aI7->Option Bool)(j:FuncId)(C:List D)(hp2:∀z0 z1 r,U z0 z1=some r->kD Tryz.prog j ((true,M.aI7.en z0)::(true,M.aI7.en z1)::  C.map λc=>(false,[c])) [(false,[.ro (.bool r)])])(r:Bool)(h:oQ I J U=some r):Sc 116 [(false,[.sl (List.map M.aI7.en I)]),(false,[.sl (List.map M.aI7.en J)]),(false,[.fn j C])] [rB r]:=by
 have i1:=inv λm s=>∃aa:Int,(s.t 1=vL M.aI7.en J/\s.t 2=.v false [.dat (.fn j C)]/\s.t 15=vL M.aI7.en I/\s.t 16=vI (List.length I:Int)/\s.t 17=vI aa)/\gD I J U m aa=some r
 have e1:=@gD.eq_2
 unfold oQ at h
 exact sgo 32 [.tmp 6] Tryz.func116
instance:bE 265 (∀p0 p1 r (h:pP p0 p1=some r),Sc 265 [aL M.aP.en p0,aL M.aP.en p1] [rB r]):=⟨λp0 p1 r h=>by
 have i1:=inv λm s=>∃aa:Int,(s.t 0=vL M.aP.en p0/\s.t 1=vL M.aP.en p1/\s.t 12=vI (List.length p0:Int)/\s.t 13=vI aa)/\gU p0 p1 m aa=some r
 have e1:=@gU.eq_2
 unfold pP at h
 exact sgo 26 [.tmp 4] Tryz.func265⟩
instance:bE 146 (∀p0 p1 r (h:wL p0 p1=some r),Sc 146 [aL M.bG.en p0,aS p1] [rW 3 1 enI r]):=⟨λp0 p1 r h=>by
 have i1:=inv λm s=>∃v11:Int,∃r8:List Int,∃u8:Nat,(s.t 1=vS p1/\s.t 5=vR 100008 u8/\s.t 9=vL M.bG.en p0/\s.t 10=vI (List.length p0:Int)/\s.t 11=vI v11/\s.h 100008=(u8,oW 3 1 enI r8))/\eR p0 p1 m v11 r8=some r
 have e1:=@eR.eq_2
 unfold wL at h
 exact sgo 26 [.tmp 4] Tryz.func146⟩
instance:bE 503 (∀p0 p1 r (h:AX p0 p1=some r),Sc 503 [aL enI p0,aI p1] [rI r]):=⟨λp0 p1 r h=>by
 have i1:=inv λm s=>∃v8:Int,(s.t 0=vL enI p0/\s.t 1=vI p1/\s.t 7=vI (List.length p0:Int)/\s.t 8=vI v8)/\iS p0 p1 m v8=some r
 have e1:=@iS.eq_2
 unfold AX at h
 exact sgo 19 [.tmp 4] Tryz.func503⟩
