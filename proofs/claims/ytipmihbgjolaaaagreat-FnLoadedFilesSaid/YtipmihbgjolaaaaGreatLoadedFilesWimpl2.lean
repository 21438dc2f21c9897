/-
  Helper text. No conditions.
-/
import Derived.Test.YtipmihbgjolaaaaGreatLoadedFilesTi
set_option linter.unusedVariables false
set_option linter.unusedSimpArgs false
namespace Go.Proofs.YtipmihbgjolaaaaGreat.gen
open Go Go.Sh
set_option maxRecDepth 20000
set_option maxHeartbeats 4000000
theorem aBE (p0 r) (h:kG p0=some r):Sc 222 [aL enB p0] [rW 5 1 enB r]:=by unfold kG at h;exact sgo 6 [.tmp 2] Tryz.func222
instance:bH 222 (type_of% @aBE):=⟨@aBE⟩
theorem aAo (p0 r) (h:wS p0=some r):Sc 360 [aX (M.aD.en p0)] [(true,M.aD.rs r)]:=by unfold wS at h;exact sgo 8 [.cell 2 254] Tryz.func360
instance:bH 360 (type_of% @aAo):=⟨@aAo⟩
theorem c80 (p0 c0 r) (h:vA p0 c0=some r):Sc 80 [aX (M.bC.en p0),(false,[.ptr [.int .i64 c0]])] [rB r]:=by unfold vA at h;exact sgo 8 [.tmp 3] Tryz.func80
theorem aEt (p0:List M.aFL) (p1:M.aFL->Option Bool) (f1_:FuncId) (k1_:List D) (hp1 : ∀z0 r,p1 z0=some r->lO Tryz.prog f1_ ((true,M.aFL.en z0) ::  k1_.map λc=>(false,[c])) [(false,[.ro (.bool r)])]) (r:Int) (h:kB p0 p1=some r):Sc 271 [(false,[.sl (List.map M.aFL.en p0)]),(false,[.fn f1_ k1_])] [rI r]:=by
 have i1:=inv λm s=>∃v8:Int,(s.t 0=vL M.aFL.en p0/\s.t 1 = .v false [.dat (.fn f1_ k1_)]/\s.t 7=vI (List.length p0:Int)/\s.t 8=vI v8)/\cY p0 p1 m v8=some r
 have e1:=@cY.eq_2
 unfold kB at h
 exact sgo 19 [.tmp 4] Tryz.func271
theorem aAb (p0 r) (h:xQ p0=some r):Sc 325 [aS p0] [rB r]:=by
 have i1:=inv λm s=>∃v3:Int,(s.t 0=vS p0/\s.t 3=vI v3)/\eA p0 m v3=some r
 have e1:=@eA.eq_2
 unfold xQ at h
 exact sgo 36 [.tmp 2] Tryz.func325
instance:bH 325 (type_of% @aAb):=⟨@aAb⟩
theorem aB3 (p0 p1 r) (h:mG p0 p1=some r):Sc 363 [aL M.aN.en p0,aX (M.aN.en p1)] [rI r]:=by
 have i1:=inv λm s=>∃v8:Int,(s.t 0=vL M.aN.en p0/\s.t 3=vP 3 1 0/\s.t 7=vI (List.length p0:Int)/\s.t 8=vI v8/\s.h 3=(1,oX 282 (M.aN.en p1)))/\dQ p0 p1 m v8=some r
 have e1:=@dQ.eq_2
 unfold mG at h
 exact sgo 19 [.tmp 4] Tryz.func363
instance:bH 363 (type_of% @aB3):=⟨@aB3⟩
theorem c60 (p0 c0 c1 r) (h:sR p0 c0 c1=some r):Sc 60 [aX (M.aJ.en p0),(false,[.ptr [.str c0]]),(false,[.ptr [.str c1]])] [rB r]:=by unfold sR at h;exact sgo 15 [.tmp 4] Tryz.func60
theorem c59 (p0:List M.aJ) (p1:M.aJ->Option Bool) (f1_:FuncId) (k1_:List D) (hp1 : ∀z0 r,p1 z0=some r->lO Tryz.prog f1_ ((true,M.aJ.en z0) ::  k1_.map λc=>(false,[c])) [(false,[.ro (.bool r)])]) (r:Int) (h:jU p0 p1=some r):Sc 59 [(false,[.sl (List.map M.aJ.en p0)]),(false,[.fn f1_ k1_])] [rI r]:=by
 have i1:=inv λm s=>∃v8:Int,(s.t 0=vL M.aJ.en p0/\s.t 1 = .v false [.dat (.fn f1_ k1_)]/\s.t 7=vI (List.length p0:Int)/\s.t 8=vI v8)/\cX p0 p1 m v8=some r
 have e1:=@cX.eq_2
 unfold jU at h
 exact sgo 19 [.tmp 4] Tryz.func59
theorem c81 (p0 p1 r) (h:lK p0 p1=some r):Sc 81 [aL enS p0,aS p1] [rI r]:=by
 have i1:=inv λm s=>∃v8:Int,(s.t 0=vL enS p0/\s.t 1=vS p1/\s.t 7=vI (List.length p0:Int)/\s.t 8=vI v8)/\bY p0 p1 m v8=some r
 have e1:=@bY.eq_2
 unfold lK at h
 exact sgo 19 [.tmp 4] Tryz.func81
instance:bH 81 (type_of% @c81):=⟨@c81⟩
theorem aAS (r) (h:cG=some r):Sc 174 [] [(true,M.aE9.rs r)]:=by unfold cG at h;exact sgo 2 [.cell 0 105] Tryz.func174
instance:bH 174 (type_of% @aAS):=⟨@aAS⟩
theorem aEE (p0:List M.aFE) (p1:M.aFE->Option Bool) (f1_:FuncId) (k1_:List D) (hp1 : ∀z0 r,p1 z0=some r->lO Tryz.prog f1_ ((true,M.aFE.en z0) ::  k1_.map λc=>(false,[c])) [(false,[.ro (.bool r)])]) (r:Int) (h:lE p0 p1=some r):Sc 194 [(false,[.sl (List.map M.aFE.en p0)]),(false,[.fn f1_ k1_])] [rI r]:=by
 have i1:=inv λm s=>∃v8:Int,(s.t 0=vL M.aFE.en p0/\s.t 1 = .v false [.dat (.fn f1_ k1_)]/\s.t 7=vI (List.length p0:Int)/\s.t 8=vI v8)/\dI p0 p1 m v8=some r
 have e1:=@dI.eq_2
 unfold lE at h
 exact sgo 19 [.tmp 4] Tryz.func194
theorem aB5 (p0:List M.aC) (p1:List M.aC) (p2:M.aC->M.aC->Option Bool) (f2_:FuncId) (k2_:List D) (hp2 : ∀z0 z1 r,p2 z0 z1=some r->lO Tryz.prog f2_ ((true,M.aC.en z0)::(true,M.aC.en z1) ::  k2_.map λc=>(false,[c])) [(false,[.ro (.bool r)])]) (r:Bool) (h:lQ p0 p1 p2=some r):Sc 320 [(false,[.sl (List.map M.aC.en p0)]),(false,[.sl (List.map M.aC.en p1)]),(false,[.fn f2_ k2_])] [rB r]:=by
 have i1:=inv λm s=>∃aa:Int,(s.t 1=vL M.aC.en p1/\s.t 2 = .v false [.dat (.fn f2_ k2_)]/\s.t 15=vL M.aC.en p0/\s.t 16=vI (List.length p0:Int)/\s.t 17=vI aa)/\eX p0 p1 p2 m aa=some r
 have e1:=@eX.eq_2
 unfold lQ at h
 exact sgo 32 [.tmp 6] Tryz.func320
theorem aEO (p0 p1 r) (h:mN p0 p1=some r):Sc 321 [aL M.aN.en p0,aL M.aN.en p1] [rB r]:=by
 have i1:=inv λm s=>∃aa:Int,(s.t 0=vL M.aN.en p0/\s.t 1=vL M.aN.en p1/\s.t 12=vI (List.length p0:Int)/\s.t 13=vI aa)/\fM p0 p1 m aa=some r
 have e1:=@fM.eq_2
 unfold mN at h
 exact sgo 26 [.tmp 4] Tryz.func321
theorem aBA (p0 p1 r) (h:mU p0 p1=some r):Sc 166 [aL M.bD.en p0,aL M.bD.en p1] [rB r]:=by
 have i1:=inv λm s=>∃aa:Int,(s.t 0=vL M.bD.en p0/\s.t 1=vL M.bD.en p1/\s.t 12=vI (List.length p0:Int)/\s.t 13=vI aa)/\iO p0 p1 m aa=some r
 have e1:=@iO.eq_2
 unfold mU at h
 exact sgo 26 [.tmp 4] Tryz.func166
instance:bH 166 (type_of% @aBA):=⟨@aBA⟩
theorem c95 (p0:List M.aFG) (p1:List M.aFG) (p2:M.aFG->M.aFG->Option Bool) (f2_:FuncId) (k2_:List D) (hp2 : ∀z0 z1 r,p2 z0 z1=some r->lO Tryz.prog f2_ ((true,M.aFG.en z0)::(true,M.aFG.en z1) ::  k2_.map λc=>(false,[c])) [(false,[.ro (.bool r)])]) (r:Bool) (h:jZ p0 p1 p2=some r):Sc 95 [(false,[.sl (List.map M.aFG.en p0)]),(false,[.sl (List.map M.aFG.en p1)]),(false,[.fn f2_ k2_])] [rB r]:=by
 have i1:=inv λm s=>∃aa:Int,(s.t 1=vL M.aFG.en p1/\s.t 2 = .v false [.dat (.fn f2_ k2_)]/\s.t 15=vL M.aFG.en p0/\s.t 16=vI (List.length p0:Int)/\s.t 17=vI aa)/\eC p0 p1 p2 m aa=some r
 have e1:=@eC.eq_2
 unfold jZ at h
 exact sgo 32 [.tmp 6] Tryz.func95
theorem aDc (p0 p1 r) (h:nF p0 p1=some r):Sc 165 [aL M.aO.en p0,aL M.aO.en p1] [rB r]:=by
 have i1:=inv λm s=>∃aa:Int,(s.t 0=vL M.aO.en p0/\s.t 1=vL M.aO.en p1/\s.t 12=vI (List.length p0:Int)/\s.t 13=vI aa)/\gG p0 p1 m aa=some r
 have e1:=@gG.eq_2
 unfold nF at h
 exact sgo 26 [.tmp 4] Tryz.func165
instance:bH 165 (type_of% @aDc):=⟨@aDc⟩
theorem aBg (p0 p1 r) (h:Ax p0 p1=some r):Sc 183 [aX (M.bC.en p0),aX (M.bC.en p1)] [rB r]:=by unfold Ax at h;exact sgo 24 [.tmp 4] Tryz.func183
end Go.Proofs.YtipmihbgjolaaaaGreat.gen
