/-
  Helper text. No conditions.
-/
import Derived.Test.YtipmihbgjolaaaaGreatCompleteCachesTi
set_option linter.unusedVariables false
set_option linter.unusedSimpArgs false
namespace Go.Proofs.YtipmihbgjolaaaaGreat.gen
open Go Go.Sh
set_option maxRecDepth 20000
set_option maxHeartbeats 4000000
theorem aCf (p0 r) (h:kW p0=some r):Sc 222 [aL enB p0] [rW 5 1 enB r]:=by unfold kW at h;exact sgo 6 [.tmp 2] Tryz.func222
instance:bF 222 (type_of% @aCf):=⟨@aCf⟩
theorem aDU (p0 r) (h:xU p0=some r):Sc 303 [aX (M.aM.en p0)] [(true,M.aM.rs r)]:=by unfold xU at h;exact sgo 9 [.cell 2 43] Tryz.func303
instance:bF 303 (type_of% @aDU):=⟨@aDU⟩
theorem aDv (p0 r) (h:wA p0=some r):Sc 185 [aX (M.aGu.en p0)] [(true,M.aGu.rs r)]:=by unfold wA at h;exact sgo 16 [.cell 2 94] Tryz.func185
instance:bF 185 (type_of% @aDv):=⟨@aDv⟩
theorem aDA (p0 r) (h:wD p0=some r):Sc 170 [aX (M.aGt.en p0)] [(true,M.aGt.rs r)]:=by unfold wD at h;exact sgo 8 [.cell 2 71] Tryz.func170
instance:bF 170 (type_of% @aDA):=⟨@aDA⟩
theorem aCJ (p0 r) (h:pO p0=some r):Sc 171 [aX (M.aGl.en p0)] [(true,M.aGl.rs r)]:=by unfold pO at h;exact sgo 9 [.cell 2 85] Tryz.func171
instance:bF 171 (type_of% @aCJ):=⟨@aCJ⟩
theorem aCE (p0 p1 r) (h:vT p0 p1=some r):Sc 326 [aI p0,aI p1] [rI r]:=by unfold vT at h;exact sgo 13 [.tmp 4] Tryz.func326
instance:bF 326 (type_of% @aCE):=⟨@aCE⟩
set_option maxRecDepth 100000 in
set_option maxHeartbeats 4000000 in
theorem aD9 (p0:ByteArray) (p1:ByteArray) (r:Int) (h:nV p0 p1=some r):kR Tryz.prog 372 [(false,[.str p0]),(false,[.str p1])] [(false,[.ro (.int .i64 r)])]:=by
 refine Qu Tryz.func372 rfl qf λw => ?_
 cases h
 go_enter Tryz.func372,Tryz.ntmps372
 go_wp2
 rw [run_callFunc_extern Tryz.func396 (by kernel_rfl) (by kernel_rfl) (by kernel_rfl) (e:=Extern.BytealgCompare.compare) (by kernel_rfl),Lib.run_compareString]
 simp only [Result.andThen]
 rw [Oper.upon_value]
 go_wp2
 go_ret
 exact ⟨rfl,rfl⟩
instance:bF 372 (type_of% @aD9):=⟨@aD9⟩
theorem aFz (p0 c0 r) (h:vV p0 c0=some r):Sc 362 [aX (M.aD.en p0),(false,[.ptr [.str c0]])] [rB r]:=by unfold vV at h;exact sgo 8 [.tmp 3] Tryz.func362
theorem aF4 (p0:List M.aD) (p1:M.aD->Option Bool) (f1_:FuncId) (k1_:List D) (hp1 : ∀z0 r,p1 z0=some r->kR Tryz.prog f1_ ((true,M.aD.en z0) ::  k1_.map λc=>(false,[c])) [(false,[.ro (.bool r)])]) (r:Int) (h:lY p0 p1=some r):Sc 361 [(false,[.sl (List.map M.aD.en p0)]),(false,[.fn f1_ k1_])] [rI r]:=by
 have i1:=inv λm s=>∃v8:Int,(s.t 0=vL M.aD.en p0/\s.t 1 = .v false [.dat (.fn f1_ k1_)]/\s.t 7=vI (List.length p0:Int)/\s.t 8=vI v8)/\dM p0 p1 m v8=some r
 have e1:=@dM.eq_2
 unfold lY at h
 exact sgo 19 [.tmp 4] Tryz.func361
theorem aDW (p0 p1 r) (h:mS p0 p1=some r):Sc 363 [aL M.aO.en p0,aX (M.aO.en p1)] [rI r]:=by
 have i1:=inv λm s=>∃v8:Int,(s.t 0=vL M.aO.en p0/\s.t 3=vP 3 1 0/\s.t 7=vI (List.length p0:Int)/\s.t 8=vI v8/\s.h 3=(1,oX 282 (M.aO.en p1)))/\dU p0 p1 m v8=some r
 have e1:=@dU.eq_2
 unfold mS at h
 exact sgo 19 [.tmp 4] Tryz.func363
instance:bF 363 (type_of% @aDW):=⟨@aDW⟩
theorem c49 (p0 p1 r) (h:uF p0 p1=some r):Sc 49 [aX (M.aG.en p0),aX (M.aG.en p1)] [rB r]:=by unfold uF at h;exact sgo 24 [.tmp 4] Tryz.func49
instance:bF 49 (type_of% @c49):=⟨@c49⟩
theorem c60 (p0 c0 c1 r) (h:tR p0 c0 c1=some r):Sc 60 [aX (M.aG.en p0),(false,[.ptr [.str c0]]),(false,[.ptr [.str c1]])] [rB r]:=by unfold tR at h;exact sgo 15 [.tmp 4] Tryz.func60
theorem c59 (p0:List M.aG) (p1:M.aG->Option Bool) (f1_:FuncId) (k1_:List D) (hp1 : ∀z0 r,p1 z0=some r->kR Tryz.prog f1_ ((true,M.aG.en z0) ::  k1_.map λc=>(false,[c])) [(false,[.ro (.bool r)])]) (r:Int) (h:kD p0 p1=some r):Sc 59 [(false,[.sl (List.map M.aG.en p0)]),(false,[.fn f1_ k1_])] [rI r]:=by
 have i1:=inv λm s=>∃v8:Int,(s.t 0=vL M.aG.en p0/\s.t 1 = .v false [.dat (.fn f1_ k1_)]/\s.t 7=vI (List.length p0:Int)/\s.t 8=vI v8)/\dD p0 p1 m v8=some r
 have e1:=@dD.eq_2
 unfold kD at h
 exact sgo 19 [.tmp 4] Tryz.func59
theorem aGJ (p0:List M.aGo) (p1:List M.aGo) (p2:M.aGo->M.aGo->Option Bool) (f2_:FuncId) (k2_:List D) (hp2 : ∀z0 z1 r,p2 z0 z1=some r->kR Tryz.prog f2_ ((true,M.aGo.en z0)::(true,M.aGo.en z1) ::  k2_.map λc=>(false,[c])) [(false,[.ro (.bool r)])]) (r:Bool) (h:lU p0 p1 p2=some r):Sc 239 [(false,[.sl (List.map M.aGo.en p0)]),(false,[.sl (List.map M.aGo.en p1)]),(false,[.fn f2_ k2_])] [rB r]:=by
 have i1:=inv λm s=>∃aa:Int,(s.t 1=vL M.aGo.en p1/\s.t 2 = .v false [.dat (.fn f2_ k2_)]/\s.t 15=vL M.aGo.en p0/\s.t 16=vI (List.length p0:Int)/\s.t 17=vI aa)/\fF p0 p1 p2 m aa=some r
 have e1:=@fF.eq_2
 unfold lU at h
 exact sgo 32 [.tmp 6] Tryz.func239
theorem aGa (p0:List M.aGw) (p1:List M.aGw) (p2:M.aGw->M.aGw->Option Bool) (f2_:FuncId) (k2_:List D) (hp2 : ∀z0 z1 r,p2 z0 z1=some r->kR Tryz.prog f2_ ((true,M.aGw.en z0)::(true,M.aGw.en z1) ::  k2_.map λc=>(false,[c])) [(false,[.ro (.bool r)])]) (r:Bool) (h:kH p0 p1 p2=some r):Sc 318 [(false,[.sl (List.map M.aGw.en p0)]),(false,[.sl (List.map M.aGw.en p1)]),(false,[.fn f2_ k2_])] [rB r]:=by
 have i1:=inv λm s=>∃aa:Int,(s.t 1=vL M.aGw.en p1/\s.t 2 = .v false [.dat (.fn f2_ k2_)]/\s.t 15=vL M.aGw.en p0/\s.t 16=vI (List.length p0:Int)/\s.t 17=vI aa)/\eJ p0 p1 p2 m aa=some r
 have e1:=@eJ.eq_2
 unfold kH at h
 exact sgo 32 [.tmp 6] Tryz.func318
theorem aDY (p0:List M.aD) (p1:List M.aD) (p2:M.aD->M.aD->Option Bool) (f2_:FuncId) (k2_:List D) (hp2 : ∀z0 z1 r,p2 z0 z1=some r->kR Tryz.prog f2_ ((true,M.aD.en z0)::(true,M.aD.en z1) ::  k2_.map λc=>(false,[c])) [(false,[.ro (.bool r)])]) (r:Bool) (h:mH p0 p1 p2=some r):Sc 320 [(false,[.sl (List.map M.aD.en p0)]),(false,[.sl (List.map M.aD.en p1)]),(false,[.fn f2_ k2_])] [rB r]:=by
 have i1:=inv λm s=>∃aa:Int,(s.t 1=vL M.aD.en p1/\s.t 2 = .v false [.dat (.fn f2_ k2_)]/\s.t 15=vL M.aD.en p0/\s.t 16=vI (List.length p0:Int)/\s.t 17=vI aa)/\fC p0 p1 p2 m aa=some r
 have e1:=@fC.eq_2
 unfold mH at h
 exact sgo 32 [.tmp 6] Tryz.func320
theorem aF2 (p0 p1 r) (h:nC p0 p1=some r):Sc 321 [aL M.aO.en p0,aL M.aO.en p1] [rB r]:=by
 have i1:=inv λm s=>∃aa:Int,(s.t 0=vL M.aO.en p0/\s.t 1=vL M.aO.en p1/\s.t 12=vI (List.length p0:Int)/\s.t 13=vI aa)/\fV p0 p1 m aa=some r
 have e1:=@fV.eq_2
 unfold nC at h
 exact sgo 26 [.tmp 4] Tryz.func321
theorem aCb (p0 p1 r) (h:nK p0 p1=some r):Sc 166 [aL M.bC.en p0,aL M.bC.en p1] [rB r]:=by
 have i1:=inv λm s=>∃aa:Int,(s.t 0=vL M.bC.en p0/\s.t 1=vL M.bC.en p1/\s.t 12=vI (List.length p0:Int)/\s.t 13=vI aa)/\iW p0 p1 m aa=some r
 have e1:=@iW.eq_2
 unfold nK at h
 exact sgo 26 [.tmp 4] Tryz.func166
instance:bF 166 (type_of% @aCb):=⟨@aCb⟩
theorem aBt (p0 p1 r) (h:pK p0 p1=some r):Sc 161 [aL M.aW.en p0,aL M.aW.en p1] [rB r]:=by
 have i1:=inv λm s=>∃aa:Int,(s.t 0=vL M.aW.en p0/\s.t 1=vL M.aW.en p1/\s.t 12=vI (List.length p0:Int)/\s.t 13=vI aa)/\iD p0 p1 m aa=some r
 have e1:=@iD.eq_2
 unfold pK at h
 exact sgo 26 [.tmp 4] Tryz.func161
instance:bF 161 (type_of% @aBt):=⟨@aBt⟩
theorem aCy (p0 p1 r) (h:vZ p0 p1=some r):Sc 261 [aL enI p0,aL enI p1] [rB r]:=by
 have i1:=inv λm s=>∃aa:Int,(s.t 0=vL enI p0/\s.t 1=vL enI p1/\s.t 12=vI (List.length p0:Int)/\s.t 13=vI aa)/\lZ p0 p1 m aa=some r
 have e1:=@lZ.eq_2
 unfold vZ at h
 exact sgo 26 [.tmp 4] Tryz.func261
instance:bF 261 (type_of% @aCy):=⟨@aCy⟩
theorem c92 (p0 p1 r) (h:uJ p0 p1=some r):Sc 92 [aL M.Bk.en p0,aL M.Bk.en p1] [rB r]:=by
 have i1:=inv λm s=>∃aa:Int,(s.t 0=vL M.Bk.en p0/\s.t 1=vL M.Bk.en p1/\s.t 12=vI (List.length p0:Int)/\s.t 13=vI aa)/\kA p0 p1 m aa=some r
 have e1:=@kA.eq_2
 unfold uJ at h
 exact sgo 26 [.tmp 4] Tryz.func92
theorem c93 (p0:List M.aGl) (p1:List M.aGl) (p2:M.aGl->M.aGl->Option Bool) (f2_:FuncId) (k2_:List D) (hp2 : ∀z0 z1 r,p2 z0 z1=some r->kR Tryz.prog f2_ ((true,M.aGl.en z0)::(true,M.aGl.en z1) ::  k2_.map λc=>(false,[c])) [(false,[.ro (.bool r)])]) (r:Bool) (h:nB p0 p1 p2=some r):Sc 93 [(false,[.sl (List.map M.aGl.en p0)]),(false,[.sl (List.map M.aGl.en p1)]),(false,[.fn f2_ k2_])] [rB r]:=by
 have i1:=inv λm s=>∃aa:Int,(s.t 1=vL M.aGl.en p1/\s.t 2 = .v false [.dat (.fn f2_ k2_)]/\s.t 15=vL M.aGl.en p0/\s.t 16=vI (List.length p0:Int)/\s.t 17=vI aa)/\fX p0 p1 p2 m aa=some r
 have e1:=@fX.eq_2
 unfold nB at h
 exact sgo 32 [.tmp 6] Tryz.func93
theorem aC0 (p0 p1 r) (h:pM p0 p1=some r):Sc 163 [aL enS p0,aL enS p1] [rB r]:=by
 have i1:=inv λm s=>∃aa:Int,(s.t 0=vL enS p0/\s.t 1=vL enS p1/\s.t 12=vI (List.length p0:Int)/\s.t 13=vI aa)/\iC p0 p1 m aa=some r
 have e1:=@iC.eq_2
 unfold pM at h
 exact sgo 26 [.tmp 4] Tryz.func163
instance:bF 163 (type_of% @aC0):=⟨@aC0⟩
end Go.Proofs.YtipmihbgjolaaaaGreat.gen
