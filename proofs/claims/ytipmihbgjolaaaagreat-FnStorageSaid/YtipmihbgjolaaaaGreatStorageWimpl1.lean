/-
  Helper text. No conditions.
-/
import Derived.Test.YtipmihbgjolaaaaGreatStorageTi
set_option linter.unusedVariables false
set_option linter.unusedSimpArgs false
namespace Go.Proofs.YtipmihbgjolaaaaGreat.gen
open Go Go.Sh
set_option maxRecDepth 20000
set_option maxHeartbeats 4000000
instance:bR 222 (∀p0 r (h:kW p0=some r),Sc 222 [aL enB p0] [rW 5 1 enB r]):=⟨λp0 r h=>by unfold kW at h;exact sgo 6 [.tmp 2] Tryz.func222⟩
instance:bR 303 (∀p0 r (h:sQ p0=some r),Sc 303 [aX (M.aF.en p0)] [(true,M.aF.rs r)]):=⟨λp0 r h=>by unfold sQ at h;exact sgo 9 [.cell 2 43] Tryz.func303⟩
instance:bR 49 (∀p0 p1 r (h:lT p0 p1=some r),Sc 49 [aX (M.aK.en p0),aX (M.aK.en p1)] [rB r]):=⟨λp0 p1 r h=>by unfold lT at h;exact sgo 24 [.tmp 4] Tryz.func49⟩
theorem YO(I:List M.Zb)(J:M.Zb->Option Bool)(j:FuncId)(C:List D)(hp1:∀z0 r,J z0=some r->kM Tryz.prog j ((true,M.Zb.en z0)::  C.map λc=>(false,[c])) [(false,[.ro (.bool r)])])(r:Int)(h:iA I J=some r):Sc 271 [(false,[.sl (List.map M.Zb.en I)]),(false,[.fn j C])] [rI r]:=by
 have i1:=inv λm s=>∃U:Int,(s.t 0=vL M.Zb.en I/\s.t 1=.v false [.dat (.fn j C)]/\s.t 7=vI (List.length I:Int)/\s.t 8=vI U)/\cK I J m U=some r
 have e1:=@cK.eq_2
 unfold iA at h
 exact sgo 19 [.tmp 4] Tryz.func271
instance:bR 325 (∀p0 r (h:tG p0=some r),Sc 325 [aS p0] [rB r]):=⟨λp0 r h=>by
 have i1:=inv λm s=>∃v3:Int,(s.t 0=vS p0/\s.t 3=vI v3)/\dJ p0 m v3=some r
 have e1:=@dJ.eq_2
 unfold tG at h
 exact sgo 36 [.tmp 2] Tryz.func325⟩
instance:bR 326 (∀p0 p1 r (h:pT p0 p1=some r),Sc 326 [aI p0,aI p1] [rI r]):=⟨λp0 p1 r h=>by unfold pT at h;exact sgo 13 [.tmp 4] Tryz.func326⟩
set_option maxRecDepth 100000 in
theorem WJ (j:ByteArray) (C:ByteArray) (r:Int) (h:lA j C=some r):kM Tryz.prog 372 [(false,[.str j]),(false,[.str C])] [(false,[.ro (.int .i64 r)])]:=by
 refine Lp Tryz.func372 rfl qg λw => ?_
 cases h
 go_enter Tryz.func372,Tryz.ntmps372
 go_wp2
 rw [run_callFunc_extern Tryz.func396 (by kernel_rfl) (by kernel_rfl) (by kernel_rfl) (e:=Extern.BytealgCompare.compare) (by kernel_rfl),Lib.run_compareString]
 simp only [Result.andThen]
 rw [Oper.upon_value]
 go_wp2
 go_ret
 exact ⟨rfl,rfl⟩
instance:bR 372 (type_of%@WJ):=⟨@WJ⟩
theorem Yo(I:List M.aA)(J:M.aA->Option Bool)(j:FuncId)(C:List D)(hp1:∀z0 r,J z0=some r->kM Tryz.prog j ((true,M.aA.en z0)::  C.map λc=>(false,[c])) [(false,[.ro (.bool r)])])(r:Int)(h:jG I J=some r):Sc 361 [(false,[.sl (List.map M.aA.en I)]),(false,[.fn j C])] [rI r]:=by
 have i1:=inv λm s=>∃U:Int,(s.t 0=vL M.aA.en I/\s.t 1=.v false [.dat (.fn j C)]/\s.t 7=vI (List.length I:Int)/\s.t 8=vI U)/\cR I J m U=some r
 have e1:=@cR.eq_2
 unfold jG at h
 exact sgo 19 [.tmp 4] Tryz.func361
instance:bR 363 (∀p0 p1 r (h:kD p0 p1=some r),Sc 363 [aL M.aM.en p0,aX (M.aM.en p1)] [rI r]):=⟨λp0 p1 r h=>by
 have i1:=inv λm s=>∃v8:Int,(s.t 0=vL M.aM.en p0/\s.t 3=vP 3 1 0/\s.t 7=vI (List.length p0:Int)/\s.t 8=vI v8/\s.h 3=(1,oX 282 (M.aM.en p1)))/\dA p0 p1 m v8=some r
 have e1:=@dA.eq_2
 unfold kD at h
 exact sgo 19 [.tmp 4] Tryz.func363⟩
theorem YE(p0 c0 r)(h:tE p0 c0=some r):Sc 407 [aX (M.Field.en p0),(false,[.ptr [.str c0]])] [rB r]:=by unfold tE at h;exact sgo 8 [.tmp 3] Tryz.func407
instance:bR 245 (∀p0 p1 r (h:sV p0 p1=some r),Sc 245 [aX (M.Y7.en p0),aB p1] [rI r]):=⟨λp0 p1 r h=>by unfold sV at h;exact sgo 10 [.tmp 4] Tryz.func245⟩
theorem c57(I:List M.aK)(J:List M.aK)(U:M.aK->M.aK->Option Bool)(j:FuncId)(C:List D)(hp2:∀z0 z1 r,U z0 z1=some r->kM Tryz.prog j ((true,M.aK.en z0)::(true,M.aK.en z1)::  C.map λc=>(false,[c])) [(false,[.ro (.bool r)])])(r:Bool)(h:hY I J U=some r):Sc 57 [(false,[.sl (List.map M.aK.en I)]),(false,[.sl (List.map M.aK.en J)]),(false,[.fn j C])] [rB r]:=by
 have i1:=inv λm s=>∃aa:Int,(s.t 1=vL M.aK.en J/\s.t 2=.v false [.dat (.fn j C)]/\s.t 15=vL M.aK.en I/\s.t 16=vI (List.length I:Int)/\s.t 17=vI aa)/\dL I J U m aa=some r
 have e1:=@dL.eq_2
 unfold hY at h
 exact sgo 32 [.tmp 6] Tryz.func57
theorem YR(I:List M.Zb)(J:List M.Zb)(U:M.Zb->M.Zb->Option Bool)(j:FuncId)(C:List D)(hp2:∀z0 z1 r,U z0 z1=some r->kM Tryz.prog j ((true,M.Zb.en z0)::(true,M.Zb.en z1)::  C.map λc=>(false,[c])) [(false,[.ro (.bool r)])])(r:Bool)(h:hU I J U=some r):Sc 318 [(false,[.sl (List.map M.Zb.en I)]),(false,[.sl (List.map M.Zb.en J)]),(false,[.fn j C])] [rB r]:=by
 have i1:=inv λm s=>∃aa:Int,(s.t 1=vL M.Zb.en J/\s.t 2=.v false [.dat (.fn j C)]/\s.t 15=vL M.Zb.en I/\s.t 16=vI (List.length I:Int)/\s.t 17=vI aa)/\dM I J U m aa=some r
 have e1:=@dM.eq_2
 unfold hU at h
 exact sgo 32 [.tmp 6] Tryz.func318
theorem Wf(I:List M.aA)(J:List M.aA)(U:M.aA->M.aA->Option Bool)(j:FuncId)(C:List D)(hp2:∀z0 z1 r,U z0 z1=some r->kM Tryz.prog j ((true,M.aA.en z0)::(true,M.aA.en z1)::  C.map λc=>(false,[c])) [(false,[.ro (.bool r)])])(r:Bool)(h:jM I J U=some r):Sc 320 [(false,[.sl (List.map M.aA.en I)]),(false,[.sl (List.map M.aA.en J)]),(false,[.fn j C])] [rB r]:=by
 have i1:=inv λm s=>∃aa:Int,(s.t 1=vL M.aA.en J/\s.t 2=.v false [.dat (.fn j C)]/\s.t 15=vL M.aA.en I/\s.t 16=vI (List.length I:Int)/\s.t 17=vI aa)/\eC I J U m aa=some r
 have e1:=@eC.eq_2
 unfold jM at h
 exact sgo 32 [.tmp 6] Tryz.func320
instance:bR 166 (∀p0 p1 r (h:nJ p0 p1=some r),Sc 166 [aL M.aV.en p0,aL M.aV.en p1] [rB r]):=⟨λp0 p1 r h=>by
 have i1:=inv λm s=>∃aa:Int,(s.t 0=vL M.aV.en p0/\s.t 1=vL M.aV.en p1/\s.t 12=vI (List.length p0:Int)/\s.t 13=vI aa)/\gF p0 p1 m aa=some r
 have e1:=@gF.eq_2
 unfold nJ at h
 exact sgo 26 [.tmp 4] Tryz.func166⟩
end Go.Proofs.YtipmihbgjolaaaaGreat.gen
