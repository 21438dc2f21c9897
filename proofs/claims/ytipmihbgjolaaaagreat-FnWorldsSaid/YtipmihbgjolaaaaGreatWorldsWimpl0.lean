/-
  Helper text. No conditions.
-/
import Derived.Test.YtipmihbgjolaaaaGreatWorldsTi
set_option linter.unusedVariables false
set_option linter.unusedSimpArgs false
namespace Go.Proofs.YtipmihbgjolaaaaGreat.gen
open Go Go.Sh
set_option maxRecDepth 20000
set_option maxHeartbeats 4000000
theorem Wu (p0 p1 r) (h:rG p0 p1=some r):Sc 326 [aI p0,aI p1] [rI r]:=by unfold rG at h;exact sgo 13 [.tmp 4] Tryz.func326
instance:cA 326 (type_of% @Wu):=⟨@Wu⟩
theorem Zt (p0 c0 r) (h:rJ p0 c0=some r):Sc 362 [aX (M.aA.en p0),(false,[.ptr [.str c0]])] [rB r]:=by unfold rJ at h;exact sgo 8 [.tmp 3] Tryz.func362
theorem Xv (p0 p1 r) (h:kH p0 p1=some r):Sc 363 [aL M.aN.en p0,aX (M.aN.en p1)] [rI r]:=by
 have i1:=inv λm s=>∃v8:Int,(s.t 0=vL M.aN.en p0/\s.t 3=vP 3 1 0/\s.t 7=vI (List.length p0:Int)/\s.t 8=vI v8/\s.h 3=(1,oX 282 (M.aN.en p1)))/\dH p0 p1 m v8=some r
 have e1:=@dH.eq_2
 unfold kH at h
 exact sgo 19 [.tmp 4] Tryz.func363
instance:cA 363 (type_of% @Xv):=⟨@Xv⟩
theorem Zn (p0:List M.Field) (p1:M.Field->Option Bool) (f1_:FuncId) (k1_:List D) (hp1 : ∀z0 r,p1 z0=some r->jW Tryz.prog f1_ ((true,M.Field.en z0) ::  k1_.map λc=>(false,[c])) [(false,[.ro (.bool r)])]) (r:Int) (h:jP p0 p1=some r):Sc 406 [(false,[.sl (List.map M.Field.en p0)]),(false,[.fn f1_ k1_])] [rI r]:=by
 have i1:=inv λm s=>∃v8:Int,(s.t 0=vL M.Field.en p0/\s.t 1 = .v false [.dat (.fn f1_ k1_)]/\s.t 7=vI (List.length p0:Int)/\s.t 8=vI v8)/\dA p0 p1 m v8=some r
 have e1:=@dA.eq_2
 unfold jP at h
 exact sgo 19 [.tmp 4] Tryz.func406
theorem Wt (p0 r) (h:tD p0=some r):Sc 360 [aX (M.aC.en p0)] [(true,M.aC.rs r)]:=by unfold tD at h;exact sgo 8 [.cell 2 254] Tryz.func360
instance:cA 360 (type_of% @Wt):=⟨@Wt⟩
theorem WS (p0 r) (h:xM p0=some r):Sc 222 [aL enB p0] [rW 5 1 enB r]:=by unfold xM at h;exact sgo 6 [.tmp 2] Tryz.func222
instance:cA 222 (type_of% @WS):=⟨@WS⟩
theorem c60 (p0 c0 c1 r) (h:oZ p0 c0 c1=some r):Sc 60 [aX (M.aO.en p0),(false,[.ptr [.str c0]]),(false,[.ptr [.str c1]])] [rB r]:=by unfold oZ at h;exact sgo 15 [.tmp 4] Tryz.func60
theorem c59 (p0:List M.aO) (p1:M.aO->Option Bool) (f1_:FuncId) (k1_:List D) (hp1 : ∀z0 r,p1 z0=some r->jW Tryz.prog f1_ ((true,M.aO.en z0) ::  k1_.map λc=>(false,[c])) [(false,[.ro (.bool r)])]) (r:Int) (h:iG p0 p1=some r):Sc 59 [(false,[.sl (List.map M.aO.en p0)]),(false,[.fn f1_ k1_])] [rI r]:=by
 have i1:=inv λm s=>∃v8:Int,(s.t 0=vL M.aO.en p0/\s.t 1 = .v false [.dat (.fn f1_ k1_)]/\s.t 7=vI (List.length p0:Int)/\s.t 8=vI v8)/\cT p0 p1 m v8=some r
 have e1:=@cT.eq_2
 unfold iG at h
 exact sgo 19 [.tmp 4] Tryz.func59
theorem c79 (p0:List M.bV) (p1:M.bV->Option Bool) (f1_:FuncId) (k1_:List D) (hp1 : ∀z0 r,p1 z0=some r->jW Tryz.prog f1_ ((true,M.bV.en z0) ::  k1_.map λc=>(false,[c])) [(false,[.ro (.bool r)])]) (r:Int) (h:kQ p0 p1=some r):Sc 79 [(false,[.sl (List.map M.bV.en p0)]),(false,[.fn f1_ k1_])] [rI r]:=by
 have i1:=inv λm s=>∃v8:Int,(s.t 0=vL M.bV.en p0/\s.t 1 = .v false [.dat (.fn f1_ k1_)]/\s.t 7=vI (List.length p0:Int)/\s.t 8=vI v8)/\dI p0 p1 m v8=some r
 have e1:=@dI.eq_2
 unfold kQ at h
 exact sgo 19 [.tmp 4] Tryz.func79
theorem ZM (p0:List M.aAL) (p1:List M.aAL) (p2:M.aAL->M.aAL->Option Bool) (f2_:FuncId) (k2_:List D) (hp2 : ∀z0 z1 r,p2 z0 z1=some r->jW Tryz.prog f2_ ((true,M.aAL.en z0)::(true,M.aAL.en z1) ::  k2_.map λc=>(false,[c])) [(false,[.ro (.bool r)])]) (r:Bool) (h:jJ p0 p1 p2=some r):Sc 239 [(false,[.sl (List.map M.aAL.en p0)]),(false,[.sl (List.map M.aAL.en p1)]),(false,[.fn f2_ k2_])] [rB r]:=by
 have i1:=inv λm s=>∃aa:Int,(s.t 1=vL M.aAL.en p1/\s.t 2 = .v false [.dat (.fn f2_ k2_)]/\s.t 15=vL M.aAL.en p0/\s.t 16=vI (List.length p0:Int)/\s.t 17=vI aa)/\eL p0 p1 p2 m aa=some r
 have e1:=@eL.eq_2
 unfold jJ at h
 exact sgo 32 [.tmp 6] Tryz.func239
theorem Z4 (p0:List M.aAR) (p1:List M.aAR) (p2:M.aAR->M.aAR->Option Bool) (f2_:FuncId) (k2_:List D) (hp2 : ∀z0 z1 r,p2 z0 z1=some r->jW Tryz.prog f2_ ((true,M.aAR.en z0)::(true,M.aAR.en z1) ::  k2_.map λc=>(false,[c])) [(false,[.ro (.bool r)])]) (r:Bool) (h:iI p0 p1 p2=some r):Sc 318 [(false,[.sl (List.map M.aAR.en p0)]),(false,[.sl (List.map M.aAR.en p1)]),(false,[.fn f2_ k2_])] [rB r]:=by
 have i1:=inv λm s=>∃aa:Int,(s.t 1=vL M.aAR.en p1/\s.t 2 = .v false [.dat (.fn f2_ k2_)]/\s.t 15=vL M.aAR.en p0/\s.t 16=vI (List.length p0:Int)/\s.t 17=vI aa)/\dS p0 p1 p2 m aa=some r
 have e1:=@dS.eq_2
 unfold iI at h
 exact sgo 32 [.tmp 6] Tryz.func318
theorem Xx (p0:List M.aA) (p1:List M.aA) (p2:M.aA->M.aA->Option Bool) (f2_:FuncId) (k2_:List D) (hp2 : ∀z0 z1 r,p2 z0 z1=some r->jW Tryz.prog f2_ ((true,M.aA.en z0)::(true,M.aA.en z1) ::  k2_.map λc=>(false,[c])) [(false,[.ro (.bool r)])]) (r:Bool) (h:jS p0 p1 p2=some r):Sc 320 [(false,[.sl (List.map M.aA.en p0)]),(false,[.sl (List.map M.aA.en p1)]),(false,[.fn f2_ k2_])] [rB r]:=by
 have i1:=inv λm s=>∃aa:Int,(s.t 1=vL M.aA.en p1/\s.t 2 = .v false [.dat (.fn f2_ k2_)]/\s.t 15=vL M.aA.en p0/\s.t 16=vI (List.length p0:Int)/\s.t 17=vI aa)/\eH p0 p1 p2 m aa=some r
 have e1:=@eH.eq_2
 unfold jS at h
 exact sgo 32 [.tmp 6] Tryz.func320
theorem XV (p0 p1 r) (h:oA p0 p1=some r):Sc 373 [aL M.Field.en p0,aL M.Field.en p1] [rB r]:=by
 have i1:=inv λm s=>∃aa:Int,(s.t 0=vL M.Field.en p0/\s.t 1=vL M.Field.en p1/\s.t 12=vI (List.length p0:Int)/\s.t 13=vI aa)/\gV p0 p1 m aa=some r
 have e1:=@gV.eq_2
 unfold oA at h
 exact sgo 26 [.tmp 4] Tryz.func373
instance:cA 373 (type_of% @XV):=⟨@XV⟩
theorem Zv (p0 p1 r) (h:kO p0 p1=some r):Sc 321 [aL M.aN.en p0,aL M.aN.en p1] [rB r]:=by
 have i1:=inv λm s=>∃aa:Int,(s.t 0=vL M.aN.en p0/\s.t 1=vL M.aN.en p1/\s.t 12=vI (List.length p0:Int)/\s.t 13=vI aa)/\eU p0 p1 m aa=some r
 have e1:=@eU.eq_2
 unfold kO at h
 exact sgo 26 [.tmp 4] Tryz.func321
theorem YZ (p0 p1 r) (h:nX p0 p1=some r):Sc 260 [aL M.Instr.en p0,aL M.Instr.en p1] [rB r]:=by
 have i1:=inv λm s=>∃aa:Int,(s.t 0=vL M.Instr.en p0/\s.t 1=vL M.Instr.en p1/\s.t 12=vI (List.length p0:Int)/\s.t 13=vI aa)/\gS p0 p1 m aa=some r
 have e1:=@gS.eq_2
 unfold nX at h
 exact sgo 26 [.tmp 4] Tryz.func260
instance:cA 260 (type_of% @YZ):=⟨@YZ⟩
theorem W6 (p0 p1 r) (h:rM p0 p1=some r):Sc 261 [aL enI p0,aL enI p1] [rB r]:=by
 have i1:=inv λm s=>∃aa:Int,(s.t 0=vL enI p0/\s.t 1=vL enI p1/\s.t 12=vI (List.length p0:Int)/\s.t 13=vI aa)/\jM p0 p1 m aa=some r
 have e1:=@jM.eq_2
 unfold rM at h
 exact sgo 26 [.tmp 4] Tryz.func261
instance:cA 261 (type_of% @W6):=⟨@W6⟩
theorem c91 (p0 p1 r) (h:pE p0 p1=some r):Sc 91 [aL M.tV.en p0,aL M.tV.en p1] [rB r]:=by
 have i1:=inv λm s=>∃aa:Int,(s.t 0=vL M.tV.en p0/\s.t 1=vL M.tV.en p1/\s.t 12=vI (List.length p0:Int)/\s.t 13=vI aa)/\iF p0 p1 m aa=some r
 have e1:=@iF.eq_2
 unfold pE at h
 exact sgo 26 [.tmp 4] Tryz.func91
theorem c92 (p0 p1 r) (h:pL p0 p1=some r):Sc 92 [aL M.xV.en p0,aL M.xV.en p1] [rB r]:=by
 have i1:=inv λm s=>∃aa:Int,(s.t 0=vL M.xV.en p0/\s.t 1=vL M.xV.en p1/\s.t 12=vI (List.length p0:Int)/\s.t 13=vI aa)/\iE p0 p1 m aa=some r
 have e1:=@iE.eq_2
 unfold pL at h
 exact sgo 26 [.tmp 4] Tryz.func92
theorem c93 (p0:List M.aAO) (p1:List M.aAO) (p2:M.aAO->M.aAO->Option Bool) (f2_:FuncId) (k2_:List D) (hp2 : ∀z0 z1 r,p2 z0 z1=some r->jW Tryz.prog f2_ ((true,M.aAO.en z0)::(true,M.aAO.en z1) ::  k2_.map λc=>(false,[c])) [(false,[.ro (.bool r)])]) (r:Bool) (h:kN p0 p1 p2=some r):Sc 93 [(false,[.sl (List.map M.aAO.en p0)]),(false,[.sl (List.map M.aAO.en p1)]),(false,[.fn f2_ k2_])] [rB r]:=by
 have i1:=inv λm s=>∃aa:Int,(s.t 1=vL M.aAO.en p1/\s.t 2 = .v false [.dat (.fn f2_ k2_)]/\s.t 15=vL M.aAO.en p0/\s.t 16=vI (List.length p0:Int)/\s.t 17=vI aa)/\eX p0 p1 p2 m aa=some r
 have e1:=@eX.eq_2
 unfold kN at h
 exact sgo 32 [.tmp 6] Tryz.func93
end Go.Proofs.YtipmihbgjolaaaaGreat.gen
