/-
  Helper text. No conditions.
-/
import Derived.Test.YtndidbigdalbnaaGreatNotesTi
set_option linter.all false
namespace Go.Proofs.YtndidbigdalbnaaGreat.gen
open Go Go.Sh Tryz
set_option maxRecDepth 20000
set_option maxHeartbeats 4000000
instance:bU 64 (∀p0 r (h:bW p0=some r),Sc 64 [aX (M.aF.en p0)] [(true,M.aF.rs r)]):=⟨λp0 r h=>by unfold bW at h;exact sgo 8 [.cell 2 90] func64⟩
instance:bU 254 (∀p0 r (h:oI p0=some r),Sc 254 [aX (M.aO.en p0)] [(true,M.aO.rs r)]):=⟨λp0 r h=>by unfold oI at h;exact sgo 9 [.cell 2 69] func254⟩
instance:bU 54 (∀p0 r (h:Ai p0=some r),Sc 54 [aX (M.aKp.en p0)] [(true,M.aKp.rs r)]):=⟨λp0 r h=>by unfold Ai at h;exact sgo 8 [.cell 2 33] func54⟩
instance:bU 55 (∀p0 r (h:Co p0=some r),Sc 55 [aX (M.aKl.en p0)] [(true,M.aKl.rs r)]):=⟨λp0 r h=>by unfold Co at h;exact sgo 9 [.cell 2 120] func55⟩
instance:bU 183 (∀p0 r (h:uG p0=some r),Sc 183 [aL enB p0] [rW 3 1 enI r]):=⟨λp0 r h=>by
 have i1:=inv λm s=>∃v11:Int,∃r8:List Int,∃u8:Nat,(s.t 3=vR 100008 u8/\s.t 9=vL enB p0/\s.t 10=vI (List.length p0:Int)/\s.t 11=vI v11/\s.h 100008=(u8,oW 3 1 enI r8))/\kP p0 m v11 r8=some r
 have e1:=@kP.eq_2
 unfold uG at h
 exact sgo 22 [.tmp 2] func183⟩
instance:bU 247 (∀p0 r (h:Bw p0=some r),Sc 247 [aS p0] [rB r]):=⟨λp0 r h=>by
 have i1:=inv λm s=>∃v3:Int,(s.t 0=vS p0/\s.t 3=vI v3)/\gX p0 m v3=some r
 have e1:=@gX.eq_2
 unfold Bw at h
 exact sgo 36 [.tmp 2] func247⟩
instance:bU 309 (∀p0 p1 r (h:zY p0 p1=some r),Sc 309 [aI p0,aI p1] [rI r]):=⟨λp0 p1 r h=>by unfold zY at h;exact sgo 13 [.tmp 4] func309⟩
theorem aKK(p0 c0 r)(h:yO p0 c0=some r):Sc 127 [aX (M.aR.en p0),(false,[.ptr [.str c0]])] [rB r]:=by unfold yO at h;exact sgo 8 [.tmp 3] func127
theorem aJi(I:List M.aR)(J:M.aR->Option Bool)(j:FuncId)(C:List D)(hp1:∀z0 r,J z0=some r->lE prog j ((true,M.aR.en z0)::  C.map λc=>(false,[c])) [(false,[.ro (.bool r)])])(r:Int)(h:oG I J=some r):Sc 126 [(false,[.sl (List.map M.aR.en I)]),(false,[.fn j C])] [rI r]:=by
 have i1:=inv λm s=>∃U:Int,(s.t 0=vL M.aR.en I/\s.t 1=.v false [.dat (.fn j C)]/\s.t 7=vI (List.length I:Int)/\s.t 8=vI U)/\eB I J m U=some r
 have e1:=@eB.eq_2
 unfold oG at h
 exact sgo 19 [.tmp 4] func126
theorem aKB(p0 c0 r)(h:Ba p0 c0=some r):Sc 125 [aX (M.aKy.en p0),(false,[.ptr [.int .i64 c0.aKx,.int .i64 c0.N,.str c0.aK5]])] [rB r]:=by unfold Ba at h;exact sgo 8 [.tmp 3] func125
theorem aII(I:List M.aKy)(J:M.aKy->Option Bool)(j:FuncId)(C:List D)(hp1:∀z0 r,J z0=some r->lE prog j ((true,M.aKy.en z0)::  C.map λc=>(false,[c])) [(false,[.ro (.bool r)])])(r:Int)(h:lL I J=some r):Sc 124 [(false,[.sl (List.map M.aKy.en I)]),(false,[.fn j C])] [rI r]:=by
 have i1:=inv λm s=>∃U:Int,(s.t 0=vL M.aKy.en I/\s.t 1=.v false [.dat (.fn j C)]/\s.t 7=vI (List.length I:Int)/\s.t 8=vI U)/\eP I J m U=some r
 have e1:=@eP.eq_2
 unfold lL at h
 exact sgo 19 [.tmp 4] func124
instance:bU 24 (∀p0 r (h:rE p0=some r),Sc 24 [aI p0] [(true,M.bD.rs r)]):=⟨λp0 r h=>by unfold rE at h;exact sgo 5 [.cell 2 98] func24⟩
theorem aKT(I:List M.aK2)(J:M.aK2->Option Bool)(j:FuncId)(C:List D)(hp1:∀z0 r,J z0=some r->lE prog j ((true,M.aK2.en z0)::  C.map λc=>(false,[c])) [(false,[.ro (.bool r)])])(r:Int)(h:mP I J=some r):Sc 316 [(false,[.sl (List.map M.aK2.en I)]),(false,[.fn j C])] [rI r]:=by
 have i1:=inv λm s=>∃U:Int,(s.t 0=vL M.aK2.en I/\s.t 1=.v false [.dat (.fn j C)]/\s.t 7=vI (List.length I:Int)/\s.t 8=vI U)/\dV I J m U=some r
 have e1:=@dV.eq_2
 unfold mP at h
 exact sgo 19 [.tmp 4] func316
theorem aKN(I:List M.aKv)(J:List M.aKv)(U:M.aKv->M.aKv->Option Bool)(j:FuncId)(C:List D)(hp2:∀z0 z1 r,U z0 z1=some r->lE prog j ((true,M.aKv.en z0)::(true,M.aKv.en z1)::  C.map λc=>(false,[c])) [(false,[.ro (.bool r)])])(r:Bool)(h:nX I J U=some r):Sc 214 [(false,[.sl (List.map M.aKv.en I)]),(false,[.sl (List.map M.aKv.en J)]),(false,[.fn j C])] [rB r]:=by
 have i1:=inv λm s=>∃aa:Int,(s.t 1=vL M.aKv.en J/\s.t 2=.v false [.dat (.fn j C)]/\s.t 15=vL M.aKv.en I/\s.t 16=vI (List.length I:Int)/\s.t 17=vI aa)/\gI I J U m aa=some r
 have e1:=@gI.eq_2
 unfold nX at h
 exact sgo 32 [.tmp 6] func214
theorem aJy(I:List M.aK2)(J:List M.aK2)(U:M.aK2->M.aK2->Option Bool)(j:FuncId)(C:List D)(hp2:∀z0 z1 r,U z0 z1=some r->lE prog j ((true,M.aK2.en z0)::(true,M.aK2.en z1)::  C.map λc=>(false,[c])) [(false,[.ro (.bool r)])])(r:Bool)(h:mK I J U=some r):Sc 272 [(false,[.sl (List.map M.aK2.en I)]),(false,[.sl (List.map M.aK2.en J)]),(false,[.fn j C])] [rB r]:=by
 have i1:=inv λm s=>∃aa:Int,(s.t 1=vL M.aK2.en J/\s.t 2=.v false [.dat (.fn j C)]/\s.t 15=vL M.aK2.en I/\s.t 16=vI (List.length I:Int)/\s.t 17=vI aa)/\fI I J U m aa=some r
 have e1:=@fI.eq_2
 unfold mK at h
 exact sgo 32 [.tmp 6] func272
theorem aG1(I:List M.aD)(J:List M.aD)(U:M.aD->M.aD->Option Bool)(j:FuncId)(C:List D)(hp2:∀z0 z1 r,U z0 z1=some r->lE prog j ((true,M.aD.en z0)::(true,M.aD.en z1)::  C.map λc=>(false,[c])) [(false,[.ro (.bool r)])])(r:Bool)(h:oL I J U=some r):Sc 274 [(false,[.sl (List.map M.aD.en I)]),(false,[.sl (List.map M.aD.en J)]),(false,[.fn j C])] [rB r]:=by
 have i1:=inv λm s=>∃aa:Int,(s.t 1=vL M.aD.en J/\s.t 2=.v false [.dat (.fn j C)]/\s.t 15=vL M.aD.en I/\s.t 16=vI (List.length I:Int)/\s.t 17=vI aa)/\gG I J U m aa=some r
 have e1:=@gG.eq_2
 unfold oL at h
 exact sgo 32 [.tmp 6] func274
instance:bU 277 (∀p0 p1 r (h:vN p0 p1=some r),Sc 277 [aL M.aR.en p0,aL M.aR.en p1] [rB r]):=⟨λp0 p1 r h=>by
 have i1:=inv λm s=>∃aa:Int,(s.t 0=vL M.aR.en p0/\s.t 1=vL M.aR.en p1/\s.t 12=vI (List.length p0:Int)/\s.t 13=vI aa)/\lP p0 p1 m aa=some r
 have e1:=@lP.eq_2
 unfold vN at h
 exact sgo 26 [.tmp 4] func277⟩
instance:bU 164 (∀p0 p1 r (h:vJ p0 p1=some r),Sc 164 [aL M.aY.en p0,aL M.aY.en p1] [rB r]):=⟨λp0 p1 r h=>by
 have i1:=inv λm s=>∃aa:Int,(s.t 0=vL M.aY.en p0/\s.t 1=vL M.aY.en p1/\s.t 12=vI (List.length p0:Int)/\s.t 13=vI aa)/\lK p0 p1 m aa=some r
 have e1:=@lK.eq_2
 unfold vJ at h
 exact sgo 26 [.tmp 4] func164⟩
instance:bU 165 (∀p0 p1 r (h:Ad p0 p1=some r),Sc 165 [aL enI p0,aL enI p1] [rB r]):=⟨λp0 p1 r h=>by
 have i1:=inv λm s=>∃aa:Int,(s.t 0=vL enI p0/\s.t 1=vL enI p1/\s.t 12=vI (List.length p0:Int)/\s.t 13=vI aa)/\oC p0 p1 m aa=some r
 have e1:=@oC.eq_2
 unfold Ad at h
 exact sgo 26 [.tmp 4] func165⟩
theorem c37(p0 p1 r)(h:yD p0 p1=some r):Sc 37 [aL M.vE.en p0,aL M.vE.en p1] [rB r]:=by
 have i1:=inv λm s=>∃j:Int,(s.t 0=vL M.vE.en p0/\s.t 1=vL M.vE.en p1/\s.t 12=vI (List.length p0:Int)/\s.t 13=vI j)/\mF p0 p1 m j=some r
 have e1:=@mF.eq_2
 unfold yD at h
 exact sgo 26 [.tmp 4] func37
theorem c39(I:List M.aKl)(J:List M.aKl)(U:M.aKl->M.aKl->Option Bool)(j:FuncId)(C:List D)(hp2:∀z0 z1 r,U z0 z1=some r->lE prog j ((true,M.aKl.en z0)::(true,M.aKl.en z1)::  C.map λc=>(false,[c])) [(false,[.ro (.bool r)])])(r:Bool)(h:pG I J U=some r):Sc 39 [(false,[.sl (List.map M.aKl.en I)]),(false,[.sl (List.map M.aKl.en J)]),(false,[.fn j C])] [rB r]:=by
 have i1:=inv λm s=>∃aa:Int,(s.t 1=vL M.aKl.en J/\s.t 2=.v false [.dat (.fn j C)]/\s.t 15=vL M.aKl.en I/\s.t 16=vI (List.length I:Int)/\s.t 17=vI aa)/\gV I J U m aa=some r
 have e1:=@gV.eq_2
 unfold pG at h
 exact sgo 32 [.tmp 6] func39
instance:bU 98 (∀p0 p1 r (h:tD p0 p1=some r),Sc 98 [aL enS p0,aL enS p1] [rB r]):=⟨λp0 p1 r h=>by
 have i1:=inv λm s=>∃aa:Int,(s.t 0=vL enS p0/\s.t 1=vL enS p1/\s.t 12=vI (List.length p0:Int)/\s.t 13=vI aa)/\kC p0 p1 m aa=some r
 have e1:=@kC.eq_2
 unfold tD at h
 exact sgo 26 [.tmp 4] func98⟩
instance:bU 100 (∀p0 p1 r (h:rM p0 p1=some r),Sc 100 [aL M.aQ.en p0,aL M.aQ.en p1] [rB r]):=⟨λp0 p1 r h=>by
 have i1:=inv λm s=>∃aa:Int,(s.t 0=vL M.aQ.en p0/\s.t 1=vL M.aQ.en p1/\s.t 12=vI (List.length p0:Int)/\s.t 13=vI aa)/\iF p0 p1 m aa=some r
 have e1:=@iF.eq_2
 unfold rM at h
 exact sgo 26 [.tmp 4] func100⟩
