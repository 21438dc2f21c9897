/-
  Helper text. No conditions.
-/
import Derived.Test.YtipmihbgjolaaaaGreatLoadedFilesTi
set_option linter.unusedVariables false
set_option linter.unusedSimpArgs false
namespace Go.Proofs.YtipmihbgjolaaaaGreat.gen
open Go Go.Sh
set_option maxRecDepth 20000
set_option maxHeartbeats 4000000
theorem ZD (p0 r) (h:jO p0=some r):Sc 170 [aX (M.aFB.en p0)] [(true,M.aFB.rs r)]:=by unfold jO at h;exact sgo 8 [.cell 2 71] Tryz.func170
instance:bH 170 (type_of% @ZD):=⟨@ZD⟩
theorem c79 (p0:List M.bC) (p1:M.bC->Option Bool) (f1_:FuncId) (k1_:List D) (hp1 : ∀z0 r,p1 z0=some r->lO Tryz.prog f1_ ((true,M.bC.en z0) ::  k1_.map λc=>(false,[c])) [(false,[.ro (.bool r)])]) (r:Int) (h:fY p0 p1=some r):Sc 79 [(false,[.sl (List.map M.bC.en p0)]),(false,[.fn f1_ k1_])] [rI r]:=by
 have i1:=inv λm s=>∃v8:Int,(s.t 0=vL M.bC.en p0/\s.t 1 = .v false [.dat (.fn f1_ k1_)]/\s.t 7=vI (List.length p0:Int)/\s.t 8=vI v8)/\dR p0 p1 m v8=some r
 have e1:=@dR.eq_2
 unfold fY at h
 exact sgo 19 [.tmp 4] Tryz.func79
theorem c70 (p0 p1 p2 r) (h:bB p0 p1 p2=some r):Sc 70 [aI p0,aI p1,aI p2] [rB r]:=by unfold bB at h;exact sgo 15 [.tmp 6] Tryz.func70
instance:bH 70 (type_of% @c70):=⟨@c70⟩
theorem aEe (p0 c0 c1 r) (h:tV p0 c0 c1=some r):Sc 272 [aX (M.aFL.en p0),(false,[.ptr [.str c0]]),(false,[.ptr [.str c1]])] [rB r]:=by unfold tV at h;exact sgo 15 [.tmp 4] Tryz.func272
theorem aEj (p0 c0 r) (h:xO p0 c0=some r):Sc 407 [aX (M.Field.en p0),(false,[.ptr [.str c0]])] [rB r]:=by unfold xO at h;exact sgo 8 [.tmp 3] Tryz.func407
theorem aEF (p0:List M.Field) (p1:M.Field->Option Bool) (f1_:FuncId) (k1_:List D) (hp1 : ∀z0 r,p1 z0=some r->lO Tryz.prog f1_ ((true,M.Field.en z0) ::  k1_.map λc=>(false,[c])) [(false,[.ro (.bool r)])]) (r:Int) (h:lM p0 p1=some r):Sc 406 [(false,[.sl (List.map M.Field.en p0)]),(false,[.fn f1_ k1_])] [rI r]:=by
 have i1:=inv λm s=>∃v8:Int,(s.t 0=vL M.Field.en p0/\s.t 1 = .v false [.dat (.fn f1_ k1_)]/\s.t 7=vI (List.length p0:Int)/\s.t 8=vI v8)/\dF p0 p1 m v8=some r
 have e1:=@dF.eq_2
 unfold lM at h
 exact sgo 19 [.tmp 4] Tryz.func406
theorem aD1 (p0 p1 r) (h:xD p0 p1=some r):Sc 245 [aX (M.aE9.en p0),aB p1] [rI r]:=by unfold xD at h;exact sgo 10 [.tmp 4] Tryz.func245
instance:bH 245 (type_of% @aD1):=⟨@aD1⟩
theorem c49 (p0 p1 r) (h:tG p0 p1=some r):Sc 49 [aX (M.aJ.en p0),aX (M.aJ.en p1)] [rB r]:=by unfold tG at h;exact sgo 24 [.tmp 4] Tryz.func49
instance:bH 49 (type_of% @c49):=⟨@c49⟩
theorem aBH (p0 r) (h:vC p0=some r):Sc 274 [aL enB p0] [rW 3 1 enI r]:=by
 have i1:=inv λm s=>∃v11:Int,∃r8:List Int,∃u8:Nat,(s.t 3=vR 100008 u8/\s.t 9=vL enB p0/\s.t 10=vI (List.length p0:Int)/\s.t 11=vI v11/\s.h 100008=(u8,oW 3 1 enI r8))/\iC p0 m v11 r8=some r
 have e1:=@iC.eq_2
 unfold vC at h
 exact sgo 22 [.tmp 2] Tryz.func274
instance:bH 274 (type_of% @aBH):=⟨@aBH⟩
theorem c57 (p0:List M.aJ) (p1:List M.aJ) (p2:M.aJ->M.aJ->Option Bool) (f2_:FuncId) (k2_:List D) (hp2 : ∀z0 z1 r,p2 z0 z1=some r->lO Tryz.prog f2_ ((true,M.aJ.en z0)::(true,M.aJ.en z1) ::  k2_.map λc=>(false,[c])) [(false,[.ro (.bool r)])]) (r:Bool) (h:jX p0 p1 p2=some r):Sc 57 [(false,[.sl (List.map M.aJ.en p0)]),(false,[.sl (List.map M.aJ.en p1)]),(false,[.fn f2_ k2_])] [rB r]:=by
 have i1:=inv λm s=>∃aa:Int,(s.t 1=vL M.aJ.en p1/\s.t 2 = .v false [.dat (.fn f2_ k2_)]/\s.t 15=vL M.aJ.en p0/\s.t 16=vI (List.length p0:Int)/\s.t 17=vI aa)/\eD p0 p1 p2 m aa=some r
 have e1:=@eD.eq_2
 unfold jX at h
 exact sgo 32 [.tmp 6] Tryz.func57
theorem aEg (p0:List M.aFE) (p1:List M.aFE) (p2:M.aFE->M.aFE->Option Bool) (f2_:FuncId) (k2_:List D) (hp2 : ∀z0 z1 r,p2 z0 z1=some r->lO Tryz.prog f2_ ((true,M.aFE.en z0)::(true,M.aFE.en z1) ::  k2_.map λc=>(false,[c])) [(false,[.ro (.bool r)])]) (r:Bool) (h:lD p0 p1 p2=some r):Sc 239 [(false,[.sl (List.map M.aFE.en p0)]),(false,[.sl (List.map M.aFE.en p1)]),(false,[.fn f2_ k2_])] [rB r]:=by
 have i1:=inv λm s=>∃aa:Int,(s.t 1=vL M.aFE.en p1/\s.t 2 = .v false [.dat (.fn f2_ k2_)]/\s.t 15=vL M.aFE.en p0/\s.t 16=vI (List.length p0:Int)/\s.t 17=vI aa)/\fA p0 p1 p2 m aa=some r
 have e1:=@fA.eq_2
 unfold lD at h
 exact sgo 32 [.tmp 6] Tryz.func239
theorem aAT (p0 p1 r) (h:oO p0 p1=some r):Sc 161 [aL M.aU.en p0,aL M.aU.en p1] [rB r]:=by
 have i1:=inv λm s=>∃aa:Int,(s.t 0=vL M.aU.en p0/\s.t 1=vL M.aU.en p1/\s.t 12=vI (List.length p0:Int)/\s.t 13=vI aa)/\gX p0 p1 m aa=some r
 have e1:=@gX.eq_2
 unfold oO at h
 exact sgo 26 [.tmp 4] Tryz.func161
instance:bH 161 (type_of% @aAT):=⟨@aAT⟩
theorem aDo (p0 p1 r) (h:rH p0 p1=some r):Sc 260 [aL M.Instr.en p0,aL M.Instr.en p1] [rB r]:=by
 have i1:=inv λm s=>∃aa:Int,(s.t 0=vL M.Instr.en p0/\s.t 1=vL M.Instr.en p1/\s.t 12=vI (List.length p0:Int)/\s.t 13=vI aa)/\iT p0 p1 m aa=some r
 have e1:=@iT.eq_2
 unfold rH at h
 exact sgo 26 [.tmp 4] Tryz.func260
instance:bH 260 (type_of% @aDo):=⟨@aDo⟩
theorem aBY (p0 p1 r) (h:uU p0 p1=some r):Sc 261 [aL enI p0,aL enI p1] [rB r]:=by
 have i1:=inv λm s=>∃aa:Int,(s.t 0=vL enI p0/\s.t 1=vL enI p1/\s.t 12=vI (List.length p0:Int)/\s.t 13=vI aa)/\lH p0 p1 m aa=some r
 have e1:=@lH.eq_2
 unfold uU at h
 exact sgo 26 [.tmp 4] Tryz.func261
instance:bH 261 (type_of% @aBY):=⟨@aBY⟩
theorem c92 (p0 p1 r) (h:tK p0 p1=some r):Sc 92 [aL M.tB.en p0,aL M.tB.en p1] [rB r]:=by
 have i1:=inv λm s=>∃aa:Int,(s.t 0=vL M.tB.en p0/\s.t 1=vL M.tB.en p1/\s.t 12=vI (List.length p0:Int)/\s.t 13=vI aa)/\jS p0 p1 m aa=some r
 have e1:=@jS.eq_2
 unfold tK at h
 exact sgo 26 [.tmp 4] Tryz.func92
theorem c93 (p0:List M.aFD) (p1:List M.aFD) (p2:M.aFD->M.aFD->Option Bool) (f2_:FuncId) (k2_:List D) (hp2 : ∀z0 z1 r,p2 z0 z1=some r->lO Tryz.prog f2_ ((true,M.aFD.en z0)::(true,M.aFD.en z1) ::  k2_.map λc=>(false,[c])) [(false,[.ro (.bool r)])]) (r:Bool) (h:mM p0 p1 p2=some r):Sc 93 [(false,[.sl (List.map M.aFD.en p0)]),(false,[.sl (List.map M.aFD.en p1)]),(false,[.fn f2_ k2_])] [rB r]:=by
 have i1:=inv λm s=>∃aa:Int,(s.t 1=vL M.aFD.en p1/\s.t 2 = .v false [.dat (.fn f2_ k2_)]/\s.t 15=vL M.aFD.en p0/\s.t 16=vI (List.length p0:Int)/\s.t 17=vI aa)/\fO p0 p1 p2 m aa=some r
 have e1:=@fO.eq_2
 unfold mM at h
 exact sgo 32 [.tmp 6] Tryz.func93
theorem aE0 (p0 c0 r) (h:vD p0 c0=some r):Sc 182 [aX (M.bC.en p0),(false,[.ptr [.int .i64 c0]])] [rB r]:=by unfold vD at h;exact sgo 8 [.tmp 3] Tryz.func182
end Go.Proofs.YtipmihbgjolaaaaGreat.gen
