/-
  Helper text. No conditions.
-/
import Derived.Test.YtipmihbgjolaaaaGreatStorageTi
set_option linter.unusedVariables false
set_option linter.unusedSimpArgs false
namespace Go.Proofs.YtipmihbgjolaaaaGreat.gen
open Go Go.Sh
set_option maxRecDepth 20000
set_option maxHeartbeats 4000000
instance:bR 360 (∀p0 r (h:sI p0=some r),Sc 360 [aX (M.aC.en p0)] [(true,M.aC.rs r)]):=⟨λp0 r h=>by unfold sI at h;exact sgo 8 [.cell 2 254] Tryz.func360⟩
theorem c60(p0 c0 c1 r)(h:oL p0 c0 c1=some r):Sc 60 [aX (M.aK.en p0),(false,[.ptr [.str c0]]),(false,[.ptr [.str c1]])] [rB r]:=by unfold oL at h;exact sgo 15 [.tmp 4] Tryz.func60
theorem c59(I:List M.aK)(J:M.aK->Option Bool)(j:FuncId)(C:List D)(hp1:∀z0 r,J z0=some r->kM Tryz.prog j ((true,M.aK.en z0)::  C.map λc=>(false,[c])) [(false,[.ro (.bool r)])])(r:Int)(h:hH I J=some r):Sc 59 [(false,[.sl (List.map M.aK.en I)]),(false,[.fn j C])] [rI r]:=by
 have i1:=inv λm s=>∃U:Int,(s.t 0=vL M.aK.en I/\s.t 1=.v false [.dat (.fn j C)]/\s.t 7=vI (List.length I:Int)/\s.t 8=vI U)/\cJ I J m U=some r
 have e1:=@cJ.eq_2
 unfold hH at h
 exact sgo 19 [.tmp 4] Tryz.func59
instance c70:bR 70 (∀p0 p1 p2 r (h:bF p0 p1 p2=some r),Sc 70 [aI p0,aI p1,aI p2] [rB r]):=⟨λp0 p1 p2 r h=>by unfold bF at h;exact sgo 15 [.tmp 6] Tryz.func70⟩
theorem Yz(p0 c0 c1 r)(h:tK p0 c0 c1=some r):Sc 272 [aX (M.Zb.en p0),(false,[.ptr [.str c0]]),(false,[.ptr [.str c1]])] [rB r]:=by unfold tK at h;exact sgo 15 [.tmp 4] Tryz.func272
theorem Yj(p0 c0 r)(h:pW p0 c0=some r):Sc 362 [aX (M.aA.en p0),(false,[.ptr [.str c0]])] [rB r]:=by unfold pW at h;exact sgo 8 [.tmp 3] Tryz.func362
theorem Ye(I:List M.Field)(J:M.Field->Option Bool)(j:FuncId)(C:List D)(hp1:∀z0 r,J z0=some r->kM Tryz.prog j ((true,M.Field.en z0)::  C.map λc=>(false,[c])) [(false,[.ro (.bool r)])])(r:Int)(h:jJ I J=some r):Sc 406 [(false,[.sl (List.map M.Field.en I)]),(false,[.fn j C])] [rI r]:=by
 have i1:=inv λm s=>∃U:Int,(s.t 0=vL M.Field.en I/\s.t 1=.v false [.dat (.fn j C)]/\s.t 7=vI (List.length I:Int)/\s.t 8=vI U)/\cQ I J m U=some r
 have e1:=@cQ.eq_2
 unfold jJ at h
 exact sgo 19 [.tmp 4] Tryz.func406
theorem YB(I:List M.Y6)(J:List M.Y6)(U:M.Y6->M.Y6->Option Bool)(j:FuncId)(C:List D)(hp2:∀z0 z1 r,U z0 z1=some r->kM Tryz.prog j ((true,M.Y6.en z0)::(true,M.Y6.en z1)::  C.map λc=>(false,[c])) [(false,[.ro (.bool r)])])(r:Bool)(h:jF I J U=some r):Sc 239 [(false,[.sl (List.map M.Y6.en I)]),(false,[.sl (List.map M.Y6.en J)]),(false,[.fn j C])] [rB r]:=by
 have i1:=inv λm s=>∃aa:Int,(s.t 1=vL M.Y6.en J/\s.t 2=.v false [.dat (.fn j C)]/\s.t 15=vL M.Y6.en I/\s.t 16=vI (List.length I:Int)/\s.t 17=vI aa)/\eE I J U m aa=some r
 have e1:=@eE.eq_2
 unfold jF at h
 exact sgo 32 [.tmp 6] Tryz.func239
instance:bR 191 (∀p0 p1 r (h:oZ p0 p1=some r),Sc 191 [aL enB p0,aL enB p1] [rB r]):=⟨λp0 p1 r h=>by
 have i1:=inv λm s=>∃aa:Int,(s.t 0=vL enB p0/\s.t 1=vL enB p1/\s.t 12=vI (List.length p0:Int)/\s.t 13=vI aa)/\gY p0 p1 m aa=some r
 have e1:=@gY.eq_2
 unfold oZ at h
 exact sgo 26 [.tmp 4] Tryz.func191⟩
theorem Yi(I:List M.Zd)(J:List M.Zd)(U:M.Zd->M.Zd->Option Bool)(j:FuncId)(C:List D)(hp2:∀z0 z1 r,U z0 z1=some r->kM Tryz.prog j ((true,M.Zd.en z0)::(true,M.Zd.en z1)::  C.map λc=>(false,[c])) [(false,[.ro (.bool r)])])(r:Bool)(h:jY I J U=some r):Sc 262 [(false,[.sl (List.map M.Zd.en I)]),(false,[.sl (List.map M.Zd.en J)]),(false,[.fn j C])] [rB r]:=by
 have i1:=inv λm s=>∃aa:Int,(s.t 1=vL M.Zd.en J/\s.t 2=.v false [.dat (.fn j C)]/\s.t 15=vL M.Zd.en I/\s.t 16=vI (List.length I:Int)/\s.t 17=vI aa)/\eM I J U m aa=some r
 have e1:=@eM.eq_2
 unfold jY at h
 exact sgo 32 [.tmp 6] Tryz.func262
instance:bR 373 (∀p0 p1 r (h:nN p0 p1=some r),Sc 373 [aL M.Field.en p0,aL M.Field.en p1] [rB r]):=⟨λp0 p1 r h=>by
 have i1:=inv λm s=>∃aa:Int,(s.t 0=vL M.Field.en p0/\s.t 1=vL M.Field.en p1/\s.t 12=vI (List.length p0:Int)/\s.t 13=vI aa)/\gI p0 p1 m aa=some r
 have e1:=@gI.eq_2
 unfold nN at h
 exact sgo 26 [.tmp 4] Tryz.func373⟩
theorem Ym(p0 p1 r)(h:kJ p0 p1=some r):Sc 321 [aL M.aM.en p0,aL M.aM.en p1] [rB r]:=by
 have i1:=inv λm s=>∃j:Int,(s.t 0=vL M.aM.en p0/\s.t 1=vL M.aM.en p1/\s.t 12=vI (List.length p0:Int)/\s.t 13=vI j)/\eL p0 p1 m j=some r
 have e1:=@eL.eq_2
 unfold kJ at h
 exact sgo 26 [.tmp 4] Tryz.func321
theorem c68(p0 c0 r)(h:fF p0 c0=some r):Sc 68 [aX (M.fS.en p0),(false,[.ptr [.str c0.Zh,.str c0.Zw,.str c0.YZ.Zh,.int .i64 c0.YZ.Zm,.int .i64 c0.YZ.Zs,.int .i64 c0.YZ.Zv,.sl (List.map M.Y6.en c0.Y1.Y1),.str c0.bG.Zf.Name,.int .i64 c0.bG.Zf.Y2,.sl (List.map M.aA.en c0.bG.Zf.Y5),.sl (List.map M.aM.en c0.bG.Zf.Za),.sl (List.map enB c0.bG.ZD),.int .i64 c0.bG.Zu,.str c0.aD.Zf.Name,.sl (List.map M.Zd.en c0.aD.Zf.Y3),.int .i64 c0.aD.Zf.Zn,.int .i64 c0.aD.Zx,.int .i64 c0.aD.Ze.aF.Zg,.int .i64 c0.aD.Ze.aF.Zr,.sl (List.map M.aV.en c0.aD.Ze.aF.Y9),.int .i64 c0.aD.Ze.Zt,.int .i64 c0.aD.Ze.Zj,.int .i64 c0.Zo,.bool c0.Zl]])] [rB r]:=by unfold fF at h;exact sgo 16 [.tmp 3] Tryz.func68
theorem c79(I:List M.fS)(J:M.fS->Option Bool)(j:FuncId)(C:List D)(hp1:∀z0 r,J z0=some r->kM Tryz.prog j ((true,M.fS.en z0)::  C.map λc=>(false,[c])) [(false,[.ro (.bool r)])])(r:Int)(h:kL I J=some r):Sc 79 [(false,[.sl (List.map M.fS.en I)]),(false,[.fn j C])] [rI r]:=by
 have i1:=inv λm s=>∃U:Int,(s.t 0=vL M.fS.en I/\s.t 1=.v false [.dat (.fn j C)]/\s.t 7=vI (List.length I:Int)/\s.t 8=vI U)/\dD I J m U=some r
 have e1:=@dD.eq_2
 unfold kL at h
 exact sgo 19 [.tmp 4] Tryz.func79
end Go.Proofs.YtipmihbgjolaaaaGreat.gen
