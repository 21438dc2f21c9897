/-
  Helper text. No conditions.
-/
import Derived.Test.YtndidbigdalbnaaGreatNotesTi
set_option linter.all false
namespace Go.Proofs.YtndidbigdalbnaaGreat.gen
open Go Go.Sh Tryz
set_option maxRecDepth 20000
set_option maxHeartbeats 4000000
instance:bU 132 (∀p0 r (h:eA p0=some r),Sc 132 [aL enB p0] [rW 5 1 enB r]):=⟨λp0 r h=>by unfold eA at h;exact sgo 6 [.tmp 2] func132⟩
instance:bU 180 (∀p0 r (h:pI p0=some r),Sc 180 [aX (M.aKh.en p0)] [(true,M.aKh.rs r)]):=⟨λp0 r h=>by unfold pI at h;exact sgo 16 [.cell 2 42] func180⟩
instance:bU 53 (∀p0 r (h:Bx p0=some r),Sc 53 [aX (M.aW.en p0)] [(true,M.aW.rs r)]):=⟨λp0 r h=>by unfold Bx at h;exact sgo 8 [.cell 2 30] func53⟩
theorem aJx(p0 c0 c1 r)(h:xV p0 c0 c1=some r):Sc 113 [aX (M.aKe.en p0),(false,[.ptr [.str c0]]),(false,[.ptr [.str c1]])] [rB r]:=by unfold xV at h;exact sgo 15 [.tmp 4] func113
theorem aJZ(I:List M.aKe)(J:M.aKe->Option Bool)(j:FuncId)(C:List D)(hp1:∀z0 r,J z0=some r->lE prog j ((true,M.aKe.en z0)::  C.map λc=>(false,[c])) [(false,[.ro (.bool r)])])(r:Int)(h:mG I J=some r):Sc 112 [(false,[.sl (List.map M.aKe.en I)]),(false,[.fn j C])] [rI r]:=by
 have i1:=inv λm s=>∃U:Int,(s.t 0=vL M.aKe.en I/\s.t 1=.v false [.dat (.fn j C)]/\s.t 7=vI (List.length I:Int)/\s.t 8=vI U)/\dU I J m U=some r
 have e1:=@dU.eq_2
 unfold mG at h
 exact sgo 19 [.tmp 4] func112
instance aEr:bU 115 (∀p0 p1 r (h:gO p0 p1=some r),Sc 115 [aL enB p0,aI p1] [rI r.1,rI r.2.1,rB r.2.2]):=⟨λp0 p1 r h=>by
 have i1:=inv λm s=>∃v7:Int,∃v8:Int,(s.t 0=vL enB p0/\s.t 1=vI p1/\s.t 7=vI v7/\s.t 8=vI v8)/\kW p0 p1 m v7 v8=some r
 have e1:=@kW.eq_2
 unfold gO at h
 exact sgo 61 [.tmp 4,.tmp 5,.tmp 6] func115⟩
instance aDp:bU 131 (∀p0 p1 p2 r (h:bA p0 p1 p2=some r),Sc 131 [aI p0,aI p1,aI p2] [rB r]):=⟨λp0 p1 p2 r h=>by unfold bA at h;exact sgo 15 [.tmp 6] func131⟩
instance:bU 184 (∀p0 p1 r (h:yE p0 p1=some r),Sc 184 [aL enB p0,aL enB p1] [rB r]):=⟨λp0 p1 r h=>by
 have i1:=inv λm s=>∃aa:Int,(s.t 0=vL enB p0/\s.t 1=vL enB p1/\s.t 12=vI (List.length p0:Int)/\s.t 13=vI aa)/\mD p0 p1 m aa=some r
 have e1:=@mD.eq_2
 unfold yE at h
 exact sgo 26 [.tmp 4] func184⟩
set_option maxRecDepth 100000 in
theorem aIj (j:ByteArray) (C:ByteArray) (r:Int) (h:rK j C=some r):lE prog 346 [(false,[.str j]),(false,[.str C])] [(false,[.ro (.int .i64 r)])]:=by
 refine UP func346 rfl wL λw => ?_
 cases h
 go_enter func346,Tryz.ntmps346
 go_wp2
 rw [run_callFunc_extern func365 (by kernel_rfl) (by kernel_rfl) (by kernel_rfl) (e:=Extern.BytealgCompare.compare) (by kernel_rfl),Lib.run_compareString]
 simp only [Result.andThen]
 rw [Oper.upon_value]
 go_wp2
 go_ret
 exact ⟨rfl,rfl⟩
instance:bU 346 (type_of%@aIj):=⟨@aIj⟩
theorem aJ1(p0 c0 r)(h:Aa p0 c0=some r):Sc 123 [aX (M.aD.en p0),(false,[.ptr [.str c0]])] [rB r]:=by unfold Aa at h;exact sgo 8 [.tmp 3] func123
theorem aJ2(I:List M.aD)(J:M.aD->Option Bool)(j:FuncId)(C:List D)(hp1:∀z0 r,J z0=some r->lE prog j ((true,M.aD.en z0)::  C.map λc=>(false,[c])) [(false,[.ro (.bool r)])])(r:Int)(h:oA I J=some r):Sc 122 [(false,[.sl (List.map M.aD.en I)]),(false,[.fn j C])] [rI r]:=by
 have i1:=inv λm s=>∃U:Int,(s.t 0=vL M.aD.en I/\s.t 1=.v false [.dat (.fn j C)]/\s.t 7=vI (List.length I:Int)/\s.t 8=vI U)/\eD I J m U=some r
 have e1:=@eD.eq_2
 unfold oA at h
 exact sgo 19 [.tmp 4] func122
instance:bU 241 (∀p0 p1 r (h:pB p0 p1=some r),Sc 241 [aL M.aV.en p0,aX (M.aV.en p1)] [rI r]):=⟨λp0 p1 r h=>by
 have i1:=inv λm s=>∃v8:Int,(s.t 0=vL M.aV.en p0/\s.t 3=vP 3 1 0/\s.t 7=vI (List.length p0:Int)/\s.t 8=vI v8/\s.h 3=(1,oX 248 (M.aV.en p1)))/\eO p0 p1 m v8=some r
 have e1:=@eO.eq_2
 unfold pB at h
 exact sgo 19 [.tmp 4] func241⟩
theorem aKW(p0 c0 c1 r)(h:yY p0 c0 c1=some r):Sc 317 [aX (M.aK2.en p0),(false,[.ptr [.str c0]]),(false,[.ptr [.str c1]])] [rB r]:=by unfold yY at h;exact sgo 15 [.tmp 4] func317
instance:bU 319 (∀p0 p1 r (h:CG p0 p1=some r),Sc 319 [aX (M.aKo.en p0),aB p1] [rI r]):=⟨λp0 p1 r h=>by unfold CG at h;exact sgo 10 [.tmp 4] func319⟩
instance:bU 73 (∀p0 p1 r (h:sQ p0 p1=some r),Sc 73 [aX (M.aKe.en p0),aX (M.aKe.en p1)] [rB r]):=⟨λp0 p1 r h=>by unfold sQ at h;exact sgo 24 [.tmp 4] func73⟩
theorem c94(I:List M.aKe)(J:List M.aKe)(U:M.aKe->M.aKe->Option Bool)(j:FuncId)(C:List D)(hp2:∀z0 z1 r,U z0 z1=some r->lE prog j ((true,M.aKe.en z0)::(true,M.aKe.en z1)::  C.map λc=>(false,[c])) [(false,[.ro (.bool r)])])(r:Bool)(h:mM I J U=some r):Sc 94 [(false,[.sl (List.map M.aKe.en I)]),(false,[.sl (List.map M.aKe.en J)]),(false,[.fn j C])] [rB r]:=by
 have i1:=inv λm s=>∃aa:Int,(s.t 1=vL M.aKe.en J/\s.t 2=.v false [.dat (.fn j C)]/\s.t 15=vL M.aKe.en I/\s.t 16=vI (List.length I:Int)/\s.t 17=vI aa)/\fH I J U m aa=some r
 have e1:=@fH.eq_2
 unfold mM at h
 exact sgo 32 [.tmp 6] func94
theorem aJg(I:List M.aKy)(J:List M.aKy)(U:M.aKy->M.aKy->Option Bool)(j:FuncId)(C:List D)(hp2:∀z0 z1 r,U z0 z1=some r->lE prog j ((true,M.aKy.en z0)::(true,M.aKy.en z1)::  C.map λc=>(false,[c])) [(false,[.ro (.bool r)])])(r:Bool)(h:oV I J U=some r):Sc 166 [(false,[.sl (List.map M.aKy.en I)]),(false,[.sl (List.map M.aKy.en J)]),(false,[.fn j C])] [rB r]:=by
 have i1:=inv λm s=>∃aa:Int,(s.t 1=vL M.aKy.en J/\s.t 2=.v false [.dat (.fn j C)]/\s.t 15=vL M.aKy.en I/\s.t 16=vI (List.length I:Int)/\s.t 17=vI aa)/\gU I J U m aa=some r
 have e1:=@gU.eq_2
 unfold oV at h
 exact sgo 32 [.tmp 6] func166
theorem aJ8(p0 p1 r)(h:pH p0 p1=some r):Sc 275 [aL M.aV.en p0,aL M.aV.en p1] [rB r]:=by
 have i1:=inv λm s=>∃j:Int,(s.t 0=vL M.aV.en p0/\s.t 1=vL M.aV.en p1/\s.t 12=vI (List.length p0:Int)/\s.t 13=vI j)/\gT p0 p1 m j=some r
 have e1:=@gT.eq_2
 unfold pH at h
 exact sgo 26 [.tmp 4] func275
instance:bU 101 (∀p0 p1 r (h:pW p0 p1=some r),Sc 101 [aL M.cH.en p0,aL M.cH.en p1] [rB r]):=⟨λp0 p1 r h=>by
 have i1:=inv λm s=>∃aa:Int,(s.t 0=vL M.cH.en p0/\s.t 1=vL M.cH.en p1/\s.t 12=vI (List.length p0:Int)/\s.t 13=vI aa)/\lG p0 p1 m aa=some r
 have e1:=@lG.eq_2
 unfold pW at h
 exact sgo 26 [.tmp 4] func101⟩
theorem c35(I:List M.bK)(J:List M.bK)(U:M.bK->M.bK->Option Bool)(j:FuncId)(C:List D)(hp2:∀z0 z1 r,U z0 z1=some r->lE prog j ((true,M.bK.en z0)::(true,M.bK.en z1)::  C.map λc=>(false,[c])) [(false,[.ro (.bool r)])])(r:Bool)(h:oU I J U=some r):Sc 35 [(false,[.sl (List.map M.bK.en I)]),(false,[.sl (List.map M.bK.en J)]),(false,[.fn j C])] [rB r]:=by
 have i1:=inv λm s=>∃aa:Int,(s.t 1=vL M.bK.en J/\s.t 2=.v false [.dat (.fn j C)]/\s.t 15=vL M.bK.en I/\s.t 16=vI (List.length I:Int)/\s.t 17=vI aa)/\gW I J U m aa=some r
 have e1:=@gW.eq_2
 unfold oU at h
 exact sgo 32 [.tmp 6] func35
instance:bU 96 (∀p0 p1 r (h:tA p0 p1=some r),Sc 96 [aL M.aT.en p0,aL M.aT.en p1] [rB r]):=⟨λp0 p1 r h=>by
 have i1:=inv λm s=>∃aa:Int,(s.t 0=vL M.aT.en p0/\s.t 1=vL M.aT.en p1/\s.t 12=vI (List.length p0:Int)/\s.t 13=vI aa)/\kD p0 p1 m aa=some r
 have e1:=@kD.eq_2
 unfold tA at h
 exact sgo 26 [.tmp 4] func96⟩
theorem c38(p0 p1 r)(h:yG p0 p1=some r):Sc 38 [aL M.Eb.en p0,aL M.Eb.en p1] [rB r]:=by
 have i1:=inv λm s=>∃j:Int,(s.t 0=vL M.Eb.en p0/\s.t 1=vL M.Eb.en p1/\s.t 12=vI (List.length p0:Int)/\s.t 13=vI j)/\mE p0 p1 m j=some r
 have e1:=@mE.eq_2
 unfold yG at h
 exact sgo 26 [.tmp 4] func38
theorem c41(I:List M.aKt)(J:List M.aKt)(U:M.aKt->M.aKt->Option Bool)(j:FuncId)(C:List D)(hp2:∀z0 z1 r,U z0 z1=some r->lE prog j ((true,M.aKt.en z0)::(true,M.aKt.en z1)::  C.map λc=>(false,[c])) [(false,[.ro (.bool r)])])(r:Bool)(h:mN I J U=some r):Sc 41 [(false,[.sl (List.map M.aKt.en I)]),(false,[.sl (List.map M.aKt.en J)]),(false,[.fn j C])] [rB r]:=by
 have i1:=inv λm s=>∃aa:Int,(s.t 1=vL M.aKt.en J/\s.t 2=.v false [.dat (.fn j C)]/\s.t 15=vL M.aKt.en I/\s.t 16=vI (List.length I:Int)/\s.t 17=vI aa)/\fG I J U m aa=some r
 have e1:=@fG.eq_2
 unfold mN at h
 exact sgo 32 [.tmp 6] func41
