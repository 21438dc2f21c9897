/-
  Helper text. No conditions.
-/
import Derived.Test.YtipmihbgjolaaaaGreatWorldsTi
set_option linter.unusedVariables false
set_option linter.unusedSimpArgs false
namespace Go.Proofs.YtipmihbgjolaaaaGreat.gen
open Go Go.Sh
set_option maxRecDepth 20000
set_option maxHeartbeats 4000000
theorem c70 (p0 p1 p2 r) (h:aW p0 p1 p2=some r):Sc 70 [aI p0,aI p1,aI p2] [rB r]:=by unfold aW at h;exact sgo 15 [.tmp 6] Tryz.func70
instance:cA 70 (type_of% @c70):=⟨@c70⟩
theorem ZK (p0 c0 c1 r) (h:uA p0 c0 c1=some r):Sc 272 [aX (M.aAR.en p0),(false,[.ptr [.str c0]]),(false,[.ptr [.str c1]])] [rB r]:=by unfold uA at h;exact sgo 15 [.tmp 4] Tryz.func272
theorem ZZ (p0:List M.aAR) (p1:M.aAR->Option Bool) (f1_:FuncId) (k1_:List D) (hp1 : ∀z0 r,p1 z0=some r->jW Tryz.prog f1_ ((true,M.aAR.en z0) ::  k1_.map λc=>(false,[c])) [(false,[.ro (.bool r)])]) (r:Int) (h:iN p0 p1=some r):Sc 271 [(false,[.sl (List.map M.aAR.en p0)]),(false,[.fn f1_ k1_])] [rI r]:=by
 have i1:=inv λm s=>∃v8:Int,(s.t 0=vL M.aAR.en p0/\s.t 1 = .v false [.dat (.fn f1_ k1_)]/\s.t 7=vI (List.length p0:Int)/\s.t 8=vI v8)/\cU p0 p1 m v8=some r
 have e1:=@cU.eq_2
 unfold iN at h
 exact sgo 19 [.tmp 4] Tryz.func271
theorem Wm (p0 r) (h:tY p0=some r):Sc 325 [aS p0] [rB r]:=by
 have i1:=inv λm s=>∃v3:Int,(s.t 0=vS p0/\s.t 3=vI v3)/\dP p0 m v3=some r
 have e1:=@dP.eq_2
 unfold tY at h
 exact sgo 36 [.tmp 2] Tryz.func325
instance:cA 325 (type_of% @Wm):=⟨@Wm⟩
set_option maxRecDepth 100000 in
set_option maxHeartbeats 4000000 in
theorem XZ (p0:ByteArray) (p1:ByteArray) (r:Int) (h:lD p0 p1=some r):jW Tryz.prog 372 [(false,[.str p0]),(false,[.str p1])] [(false,[.ro (.int .i64 r)])]:=by
 refine Mb Tryz.func372 rfl qf λw => ?_
 cases h
 go_enter Tryz.func372,Tryz.ntmps372
 go_wp2
 rw [run_callFunc_extern Tryz.func396 (by kernel_rfl) (by kernel_rfl) (by kernel_rfl) (e:=Extern.BytealgCompare.compare) (by kernel_rfl),Lib.run_compareString]
 simp only [Result.andThen]
 rw [Oper.upon_value]
 go_wp2
 go_ret
 exact ⟨rfl,rfl⟩
instance:cA 372 (type_of% @XZ):=⟨@XZ⟩
theorem Zx (p0:List M.aA) (p1:M.aA->Option Bool) (f1_:FuncId) (k1_:List D) (hp1 : ∀z0 r,p1 z0=some r->jW Tryz.prog f1_ ((true,M.aA.en z0) ::  k1_.map λc=>(false,[c])) [(false,[.ro (.bool r)])]) (r:Int) (h:jL p0 p1=some r):Sc 361 [(false,[.sl (List.map M.aA.en p0)]),(false,[.fn f1_ k1_])] [rI r]:=by
 have i1:=inv λm s=>∃v8:Int,(s.t 0=vL M.aA.en p0/\s.t 1 = .v false [.dat (.fn f1_ k1_)]/\s.t 7=vI (List.length p0:Int)/\s.t 8=vI v8)/\dB p0 p1 m v8=some r
 have e1:=@dB.eq_2
 unfold jL at h
 exact sgo 19 [.tmp 4] Tryz.func361
theorem ZP (p0 c0 r) (h:tX p0 c0=some r):Sc 407 [aX (M.Field.en p0),(false,[.ptr [.str c0]])] [rB r]:=by unfold tX at h;exact sgo 8 [.tmp 3] Tryz.func407
theorem Zb (p0 p1 r) (h:tM p0 p1=some r):Sc 245 [aX (M.aAM.en p0),aB p1] [rI r]:=by unfold tM at h;exact sgo 10 [.tmp 4] Tryz.func245
instance:cA 245 (type_of% @Zb):=⟨@Zb⟩
theorem c49 (p0 p1 r) (h:pH p0 p1=some r):Sc 49 [aX (M.aO.en p0),aX (M.aO.en p1)] [rB r]:=by unfold pH at h;exact sgo 24 [.tmp 4] Tryz.func49
instance:cA 49 (type_of% @c49):=⟨@c49⟩
theorem c81 (p0 p1 r) (h:rN p0 p1=some r):Sc 81 [aL enS p0,aS p1] [rI r]:=by
 have i1:=inv λm s=>∃v8:Int,(s.t 0=vL enS p0/\s.t 1=vS p1/\s.t 7=vI (List.length p0:Int)/\s.t 8=vI v8)/\eI p0 p1 m v8=some r
 have e1:=@eI.eq_2
 unfold rN at h
 exact sgo 19 [.tmp 4] Tryz.func81
instance:cA 81 (type_of% @c81):=⟨@c81⟩
theorem c80 (p0 c0 r) (h:rT p0 c0=some r):Sc 80 [aX (M.bV.en p0),(false,[.ptr [.int .i64 c0]])] [rB r]:=by unfold rT at h;exact sgo 8 [.tmp 3] Tryz.func80
theorem c57 (p0:List M.aO) (p1:List M.aO) (p2:M.aO->M.aO->Option Bool) (f2_:FuncId) (k2_:List D) (hp2 : ∀z0 z1 r,p2 z0 z1=some r->jW Tryz.prog f2_ ((true,M.aO.en z0)::(true,M.aO.en z1) ::  k2_.map λc=>(false,[c])) [(false,[.ro (.bool r)])]) (r:Bool) (h:iJ p0 p1 p2=some r):Sc 57 [(false,[.sl (List.map M.aO.en p0)]),(false,[.sl (List.map M.aO.en p1)]),(false,[.fn f2_ k2_])] [rB r]:=by
 have i1:=inv λm s=>∃aa:Int,(s.t 1=vL M.aO.en p1/\s.t 2 = .v false [.dat (.fn f2_ k2_)]/\s.t 15=vL M.aO.en p0/\s.t 16=vI (List.length p0:Int)/\s.t 17=vI aa)/\dR p0 p1 p2 m aa=some r
 have e1:=@dR.eq_2
 unfold iJ at h
 exact sgo 32 [.tmp 6] Tryz.func57
theorem XR (p0 p1 r) (h:pI p0 p1=some r):Sc 191 [aL enB p0,aL enB p1] [rB r]:=by
 have i1:=inv λm s=>∃aa:Int,(s.t 0=vL enB p0/\s.t 1=vL enB p1/\s.t 12=vI (List.length p0:Int)/\s.t 13=vI aa)/\iD p0 p1 m aa=some r
 have e1:=@iD.eq_2
 unfold pI at h
 exact sgo 26 [.tmp 4] Tryz.func191
instance:cA 191 (type_of% @XR):=⟨@XR⟩
theorem Zs (p0:List M.aAQ) (p1:List M.aAQ) (p2:M.aAQ->M.aAQ->Option Bool) (f2_:FuncId) (k2_:List D) (hp2 : ∀z0 z1 r,p2 z0 z1=some r->jW Tryz.prog f2_ ((true,M.aAQ.en z0)::(true,M.aAQ.en z1) ::  k2_.map λc=>(false,[c])) [(false,[.ro (.bool r)])]) (r:Bool) (h:kC p0 p1 p2=some r):Sc 262 [(false,[.sl (List.map M.aAQ.en p0)]),(false,[.sl (List.map M.aAQ.en p1)]),(false,[.fn f2_ k2_])] [rB r]:=by
 have i1:=inv λm s=>∃aa:Int,(s.t 1=vL M.aAQ.en p1/\s.t 2 = .v false [.dat (.fn f2_ k2_)]/\s.t 15=vL M.aAQ.en p0/\s.t 16=vI (List.length p0:Int)/\s.t 17=vI aa)/\eW p0 p1 p2 m aa=some r
 have e1:=@eW.eq_2
 unfold kC at h
 exact sgo 32 [.tmp 6] Tryz.func262
theorem WO (p0 p1 r) (h:kV p0 p1=some r):Sc 166 [aL M.bA.en p0,aL M.bA.en p1] [rB r]:=by
 have i1:=inv λm s=>∃aa:Int,(s.t 0=vL M.bA.en p0/\s.t 1=vL M.bA.en p1/\s.t 12=vI (List.length p0:Int)/\s.t 13=vI aa)/\gQ p0 p1 m aa=some r
 have e1:=@gQ.eq_2
 unfold kV at h
 exact sgo 26 [.tmp 4] Tryz.func166
instance:cA 166 (type_of% @WO):=⟨@WO⟩
theorem c89 (p0:List M.bV) (p1:List M.bV) (p2:M.bV->M.bV->Option Bool) (f2_:FuncId) (k2_:List D) (hp2 : ∀z0 z1 r,p2 z0 z1=some r->jW Tryz.prog f2_ ((true,M.bV.en z0)::(true,M.bV.en z1) ::  k2_.map λc=>(false,[c])) [(false,[.ro (.bool r)])]) (r:Bool) (h:kB p0 p1 p2=some r):Sc 89 [(false,[.sl (List.map M.bV.en p0)]),(false,[.sl (List.map M.bV.en p1)]),(false,[.fn f2_ k2_])] [rB r]:=by
 have i1:=inv λm s=>∃aa:Int,(s.t 1=vL M.bV.en p1/\s.t 2 = .v false [.dat (.fn f2_ k2_)]/\s.t 15=vL M.bV.en p0/\s.t 16=vI (List.length p0:Int)/\s.t 17=vI aa)/\eY p0 p1 p2 m aa=some r
 have e1:=@eY.eq_2
 unfold kB at h
 exact sgo 32 [.tmp 6] Tryz.func89
theorem Wi (p0 p1 r) (h:mM p0 p1=some r):Sc 161 [aL M.aU.en p0,aL M.aU.en p1] [rB r]:=by
 have i1:=inv λm s=>∃aa:Int,(s.t 0=vL M.aU.en p0/\s.t 1=vL M.aU.en p1/\s.t 12=vI (List.length p0:Int)/\s.t 13=vI aa)/\gC p0 p1 m aa=some r
 have e1:=@gC.eq_2
 unfold mM at h
 exact sgo 26 [.tmp 4] Tryz.func161
instance:cA 161 (type_of% @Wi):=⟨@Wi⟩
theorem W8 (p0 p1 r) (h:mN p0 p1=some r):Sc 163 [aL enS p0,aL enS p1] [rB r]:=by
 have i1:=inv λm s=>∃aa:Int,(s.t 0=vL enS p0/\s.t 1=vL enS p1/\s.t 12=vI (List.length p0:Int)/\s.t 13=vI aa)/\gB p0 p1 m aa=some r
 have e1:=@gB.eq_2
 unfold mN at h
 exact sgo 26 [.tmp 4] Tryz.func163
instance:cA 163 (type_of% @W8):=⟨@W8⟩
theorem c95 (p0:List M.aAI) (p1:List M.aAI) (p2:M.aAI->M.aAI->Option Bool) (f2_:FuncId) (k2_:List D) (hp2 : ∀z0 z1 r,p2 z0 z1=some r->jW Tryz.prog f2_ ((true,M.aAI.en z0)::(true,M.aAI.en z1) ::  k2_.map λc=>(false,[c])) [(false,[.ro (.bool r)])]) (r:Bool) (h:iL p0 p1 p2=some r):Sc 95 [(false,[.sl (List.map M.aAI.en p0)]),(false,[.sl (List.map M.aAI.en p1)]),(false,[.fn f2_ k2_])] [rB r]:=by
 have i1:=inv λm s=>∃aa:Int,(s.t 1=vL M.aAI.en p1/\s.t 2 = .v false [.dat (.fn f2_ k2_)]/\s.t 15=vL M.aAI.en p0/\s.t 16=vI (List.length p0:Int)/\s.t 17=vI aa)/\dQ p0 p1 p2 m aa=some r
 have e1:=@dQ.eq_2
 unfold iL at h
 exact sgo 32 [.tmp 6] Tryz.func95
theorem YP (p0 p1 r) (h:lG p0 p1=some r):Sc 165 [aL M.aK.en p0,aL M.aK.en p1] [rB r]:=by
 have i1:=inv λm s=>∃aa:Int,(s.t 0=vL M.aK.en p0/\s.t 1=vL M.aK.en p1/\s.t 12=vI (List.length p0:Int)/\s.t 13=vI aa)/\fL p0 p1 m aa=some r
 have e1:=@fL.eq_2
 unfold lG at h
 exact sgo 26 [.tmp 4] Tryz.func165
instance:cA 165 (type_of% @YP):=⟨@YP⟩
end Go.Proofs.YtipmihbgjolaaaaGreat.gen
