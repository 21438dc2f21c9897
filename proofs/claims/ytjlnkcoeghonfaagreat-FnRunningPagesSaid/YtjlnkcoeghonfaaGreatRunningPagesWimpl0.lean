/-
  Helper text. No conditions.
-/
import Derived.Test.YtjlnkcoeghonfaaGreatRunningPagesTi
set_option linter.all false
namespace Go.Proofs.YtjlnkcoeghonfaaGreat.gen
open Go Go.Sh Tryz
set_option maxRecDepth 20000
set_option maxHeartbeats 4000000
instance:bK 273 (∀p0 r (h:bX p0=some r),Sc 273 [aX (M.aF.en p0)] [(true,M.aF.rs r)]):=⟨λp0 r h=>by unfold bX at h;exact sgo 8 [.cell 2 207] func273⟩
instance:bK 149 (∀p0 r (h:pZ p0=some r),Sc 149 [aX (M.aLX.en p0)] [(true,M.aLX.rs r)]):=⟨λp0 r h=>by unfold pZ at h;exact sgo 16 [.cell 2 89] func149⟩
theorem aKt(p0 c0 c1 r)(h:Aj p0 c0 c1=some r):Sc 481 [aX (M.aLr.en p0),(false,[.ptr [.str c0]]),(false,[.ptr [.str c1]])] [rB r]:=by unfold Aj at h;exact sgo 15 [.tmp 4] func481
theorem aKg(I:List M.aLr)(J:M.aLr->Option Bool)(j:FuncId)(C:List D)(hp1:∀z0 r,J z0=some r->kU prog j ((true,M.aLr.en z0)::  C.map λc=>(false,[c])) [(false,[.ro (.bool r)])])(r:Int)(h:nC I J=some r):Sc 480 [(false,[.sl (List.map M.aLr.en I)]),(false,[.fn j C])] [rI r]:=by
 have i1:=inv λm s=>∃U:Int,(s.t 0=vL M.aLr.en I/\s.t 1=.v false [.dat (.fn j C)]/\s.t 7=vI (List.length I:Int)/\s.t 8=vI U)/\dZ I J m U=some r
 have e1:=@dZ.eq_2
 unfold nC at h
 exact sgo 19 [.tmp 4] func480
instance:bK 256 (∀p0 p1 r (h:tT p0 p1=some r),Sc 256 [aX (M.Bucket.en p0),aX (M.Bucket.en p1)] [rB r]):=⟨λp0 p1 r h=>by unfold tT at h;exact sgo 24 [.tmp 4] func256⟩
theorem aK3(I:List M.Bucket)(J:M.Bucket->Option Bool)(j:FuncId)(C:List D)(hp1:∀z0 r,J z0=some r->kU prog j ((true,M.Bucket.en z0)::  C.map λc=>(false,[c])) [(false,[.ro (.bool r)])])(r:Int)(h:mV I J=some r):Sc 259 [(false,[.sl (List.map M.Bucket.en I)]),(false,[.fn j C])] [rI r]:=by
 have i1:=inv λm s=>∃U:Int,(s.t 0=vL M.Bucket.en I/\s.t 1=.v false [.dat (.fn j C)]/\s.t 7=vI (List.length I:Int)/\s.t 8=vI U)/\dY I J m U=some r
 have e1:=@dY.eq_2
 unfold mV at h
 exact sgo 19 [.tmp 4] func259
instance:bK 151 (∀p0 r (h:BN p0=some r),Sc 151 [aI p0] [rI r]):=⟨λp0 r h=>by unfold BN at h;exact sgo 6 [.tmp 2] func151⟩
theorem aKc(p0 c0 r)(h:AQ p0 c0=some r):Sc 479 [aX (M.aLi.en p0),(false,[.ptr [.int .i64 c0]])] [rB r]:=by unfold AQ at h;exact sgo 8 [.tmp 3] func479
theorem aKu(I:List M.aLi)(J:M.aLi->Option Bool)(j:FuncId)(C:List D)(hp1:∀z0 r,J z0=some r->kU prog j ((true,M.aLi.en z0)::  C.map λc=>(false,[c])) [(false,[.ro (.bool r)])])(r:Int)(h:oQ I J=some r):Sc 478 [(false,[.sl (List.map M.aLi.en I)]),(false,[.fn j C])] [rI r]:=by
 have i1:=inv λm s=>∃U:Int,(s.t 0=vL M.aLi.en I/\s.t 1=.v false [.dat (.fn j C)]/\s.t 7=vI (List.length I:Int)/\s.t 8=vI U)/\eF I J m U=some r
 have e1:=@eF.eq_2
 unfold oQ at h
 exact sgo 19 [.tmp 4] func478
instance aEY:bK 383 (∀p0 p1 r (h:gX p0 p1=some r),Sc 383 [aL enB p0,aI p1] [rI r.1,rI r.2.1,rB r.2.2]):=⟨λp0 p1 r h=>by
 have i1:=inv λm s=>∃v7:Int,∃v8:Int,(s.t 0=vL enB p0/\s.t 1=vI p1/\s.t 7=vI v7/\s.t 8=vI v8)/\lI p0 p1 m v7 v8=some r
 have e1:=@lI.eq_2
 unfold gX at h
 exact sgo 61 [.tmp 4,.tmp 5,.tmp 6] func383⟩
instance:bK 487 (∀p0 p1 r (h:zQ p0 p1=some r),Sc 487 [aL enB p0,aL enB p1] [rB r]):=⟨λp0 p1 r h=>by
 have i1:=inv λm s=>∃aa:Int,(s.t 0=vL enB p0/\s.t 1=vL enB p1/\s.t 12=vI (List.length p0:Int)/\s.t 13=vI aa)/\mR p0 p1 m aa=some r
 have e1:=@mR.eq_2
 unfold zQ at h
 exact sgo 26 [.tmp 4] func487⟩
theorem aK6(p0 c0 r)(h:BU p0 c0=some r):Sc 392 [aX (M.aLo.en p0),(false,[.ptr [.int .i64 c0.aLn,.int .i64 c0.N,.str c0.aLu]])] [rB r]:=by unfold BU at h;exact sgo 8 [.tmp 3] func392
theorem aJa(I:List M.aLo)(J:M.aLo->Option Bool)(j:FuncId)(C:List D)(hp1:∀z0 r,J z0=some r->kU prog j ((true,M.aLo.en z0)::  C.map λc=>(false,[c])) [(false,[.ro (.bool r)])])(r:Int)(h:lY I J=some r):Sc 391 [(false,[.sl (List.map M.aLo.en I)]),(false,[.fn j C])] [rI r]:=by
 have i1:=inv λm s=>∃U:Int,(s.t 0=vL M.aLo.en I/\s.t 1=.v false [.dat (.fn j C)]/\s.t 7=vI (List.length I:Int)/\s.t 8=vI U)/\eW I J m U=some r
 have e1:=@eW.eq_2
 unfold lY at h
 exact sgo 19 [.tmp 4] func391
instance:bK 161 (∀p0 r (h:rV p0=some r),Sc 161 [aI p0] [(true,M.bD.rs r)]):=⟨λp0 r h=>by unfold rV at h;exact sgo 5 [.cell 2 216] func161⟩
theorem aK2(I:List M.Bucket)(J:List M.Bucket)(U:M.Bucket->M.Bucket->Option Bool)(j:FuncId)(C:List D)(hp2:∀z0 z1 r,U z0 z1=some r->kU prog j ((true,M.Bucket.en z0)::(true,M.Bucket.en z1)::  C.map λc=>(false,[c])) [(false,[.ro (.bool r)])])(r:Bool)(h:nA I J U=some r):Sc 196 [(false,[.sl (List.map M.Bucket.en I)]),(false,[.sl (List.map M.Bucket.en J)]),(false,[.fn j C])] [rB r]:=by
 have i1:=inv λm s=>∃aa:Int,(s.t 1=vL M.Bucket.en J/\s.t 2=.v false [.dat (.fn j C)]/\s.t 15=vL M.Bucket.en I/\s.t 16=vI (List.length I:Int)/\s.t 17=vI aa)/\fM I J U m aa=some r
 have e1:=@fM.eq_2
 unfold nA at h
 exact sgo 32 [.tmp 6] func196
theorem aHG(I:List M.aE)(J:List M.aE)(U:M.aE->M.aE->Option Bool)(j:FuncId)(C:List D)(hp2:∀z0 z1 r,U z0 z1=some r->kU prog j ((true,M.aE.en z0)::(true,M.aE.en z1)::  C.map λc=>(false,[c])) [(false,[.ro (.bool r)])])(r:Bool)(h:pE I J U=some r):Sc 524 [(false,[.sl (List.map M.aE.en I)]),(false,[.sl (List.map M.aE.en J)]),(false,[.fn j C])] [rB r]:=by
 have i1:=inv λm s=>∃aa:Int,(s.t 1=vL M.aE.en J/\s.t 2=.v false [.dat (.fn j C)]/\s.t 15=vL M.aE.en I/\s.t 16=vI (List.length I:Int)/\s.t 17=vI aa)/\gO I J U m aa=some r
 have e1:=@gO.eq_2
 unfold pE at h
 exact sgo 32 [.tmp 6] func524
instance:bK 527 (∀p0 p1 r (h:xS p0 p1=some r),Sc 527 [aL M.aR.en p0,aL M.aR.en p1] [rB r]):=⟨λp0 p1 r h=>by
 have i1:=inv λm s=>∃aa:Int,(s.t 0=vL M.aR.en p0/\s.t 1=vL M.aR.en p1/\s.t 12=vI (List.length p0:Int)/\s.t 13=vI aa)/\mC p0 p1 m aa=some r
 have e1:=@mC.eq_2
 unfold xS at h
 exact sgo 26 [.tmp 4] func527⟩
theorem c81(p0 p1 r)(h:zN p0 p1=some r):Sc 81 [aL M.uY.en p0,aL M.uY.en p1] [rB r]:=by
 have i1:=inv λm s=>∃j:Int,(s.t 0=vL M.uY.en p0/\s.t 1=vL M.uY.en p1/\s.t 12=vI (List.length p0:Int)/\s.t 13=vI j)/\mU p0 p1 m j=some r
 have e1:=@mU.eq_2
 unfold zN at h
 exact sgo 26 [.tmp 4] func81
