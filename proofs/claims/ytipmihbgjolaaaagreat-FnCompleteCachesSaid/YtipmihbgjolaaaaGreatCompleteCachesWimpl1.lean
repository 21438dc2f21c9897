/-
  Helper text. No conditions.
-/
import Derived.Test.YtipmihbgjolaaaaGreatCompleteCachesTi
set_option linter.unusedVariables false
set_option linter.unusedSimpArgs false
namespace Go.Proofs.YtipmihbgjolaaaaGreat.gen
open Go Go.Sh
set_option maxRecDepth 20000
set_option maxHeartbeats 4000000
theorem aGK (p0 c0 r) (h:vW p0 c0=some r):Sc 195 [aX (M.aGo.en p0),(false,[.ptr [.int .i64 c0]])] [rB r]:=by unfold vW at h;exact sgo 8 [.tmp 3] Tryz.func195
theorem aFr (p0:List M.aGo) (p1:M.aGo->Option Bool) (f1_:FuncId) (k1_:List D) (hp1 : ∀z0 r,p1 z0=some r->kR Tryz.prog f1_ ((true,M.aGo.en z0) ::  k1_.map λc=>(false,[c])) [(false,[.ro (.bool r)])]) (r:Int) (h:lV p0 p1=some r):Sc 194 [(false,[.sl (List.map M.aGo.en p0)]),(false,[.fn f1_ k1_])] [rI r]:=by
 have i1:=inv λm s=>∃v8:Int,(s.t 0=vL M.aGo.en p0/\s.t 1 = .v false [.dat (.fn f1_ k1_)]/\s.t 7=vI (List.length p0:Int)/\s.t 8=vI v8)/\dL p0 p1 m v8=some r
 have e1:=@dL.eq_2
 unfold lV at h
 exact sgo 19 [.tmp 4] Tryz.func194
theorem aBs (r) (h:jN=some r):Sc 174 [] [(true,M.aGm.rs r)]:=by unfold jN at h;exact sgo 2 [.cell 0 105] Tryz.func174
instance:bF 174 (type_of% @aBs):=⟨@aBs⟩
theorem aGH (p0 c0 c1 r) (h:uT p0 c0 c1=some r):Sc 272 [aX (M.aGw.en p0),(false,[.ptr [.str c0]]),(false,[.ptr [.str c1]])] [rB r]:=by unfold uT at h;exact sgo 15 [.tmp 4] Tryz.func272
theorem aGW (p0:List M.aGw) (p1:M.aGw->Option Bool) (f1_:FuncId) (k1_:List D) (hp1 : ∀z0 r,p1 z0=some r->kR Tryz.prog f1_ ((true,M.aGw.en z0) ::  k1_.map λc=>(false,[c])) [(false,[.ro (.bool r)])]) (r:Int) (h:kQ p0 p1=some r):Sc 271 [(false,[.sl (List.map M.aGw.en p0)]),(false,[.fn f1_ k1_])] [rI r]:=by
 have i1:=inv λm s=>∃v8:Int,(s.t 0=vL M.aGw.en p0/\s.t 1 = .v false [.dat (.fn f1_ k1_)]/\s.t 7=vI (List.length p0:Int)/\s.t 8=vI v8)/\dE p0 p1 m v8=some r
 have e1:=@dE.eq_2
 unfold kQ at h
 exact sgo 19 [.tmp 4] Tryz.func271
theorem aCi (p0 r) (h:wF p0=some r):Sc 274 [aL enB p0] [rW 3 1 enI r]:=by
 have i1:=inv λm s=>∃v11:Int,∃r8:List Int,∃u8:Nat,(s.t 3=vR 100008 u8/\s.t 9=vL enB p0/\s.t 10=vI (List.length p0:Int)/\s.t 11=vI v11/\s.h 100008=(u8,oW 3 1 enI r8))/\iM p0 m v11 r8=some r
 have e1:=@iM.eq_2
 unfold wF at h
 exact sgo 22 [.tmp 2] Tryz.func274
instance:bF 274 (type_of% @aCi):=⟨@aCi⟩
theorem c70 (p0 p1 p2 r) (h:bB p0 p1 p2=some r):Sc 70 [aI p0,aI p1,aI p2] [rB r]:=by unfold bB at h;exact sgo 15 [.tmp 6] Tryz.func70
instance:bF 70 (type_of% @c70):=⟨@c70⟩
theorem aDy (p0 p1 r) (h:uH p0 p1=some r):Sc 191 [aL enB p0,aL enB p1] [rB r]:=by
 have i1:=inv λm s=>∃aa:Int,(s.t 0=vL enB p0/\s.t 1=vL enB p1/\s.t 12=vI (List.length p0:Int)/\s.t 13=vI aa)/\jY p0 p1 m aa=some r
 have e1:=@jY.eq_2
 unfold uH at h
 exact sgo 26 [.tmp 4] Tryz.func191
instance:bF 191 (type_of% @aDy):=⟨@aDy⟩
theorem aCD (p0 r) (h:xM p0=some r):Sc 360 [aX (M.aE.en p0)] [(true,M.aE.rs r)]:=by unfold xM at h;exact sgo 8 [.cell 2 254] Tryz.func360
instance:bF 360 (type_of% @aCD):=⟨@aCD⟩
theorem aFG (p0 r) (h:yK p0=some r):Sc 169 [aX (M.aR.en p0)] [(true,M.aR.rs r)]:=by unfold yK at h;exact sgo 8 [.cell 2 68] Tryz.func169
instance:bF 169 (type_of% @aFG):=⟨@aFG⟩
theorem c81 (p0 p1 r) (h:mC p0 p1=some r):Sc 81 [aL enS p0,aS p1] [rI r]:=by
 have i1:=inv λm s=>∃v8:Int,(s.t 0=vL enS p0/\s.t 1=vS p1/\s.t 7=vI (List.length p0:Int)/\s.t 8=vI v8)/\cJ p0 p1 m v8=some r
 have e1:=@cJ.eq_2
 unfold mC at h
 exact sgo 19 [.tmp 4] Tryz.func81
instance:bF 81 (type_of% @c81):=⟨@c81⟩
theorem aB0 (p0 r) (h:yJ p0=some r):Sc 325 [aS p0] [rB r]:=by
 have i1:=inv λm s=>∃v3:Int,(s.t 0=vS p0/\s.t 3=vI v3)/\eG p0 m v3=some r
 have e1:=@eG.eq_2
 unfold yJ at h
 exact sgo 36 [.tmp 2] Tryz.func325
instance:bF 325 (type_of% @aB0):=⟨@aB0⟩
theorem aGM (p0 c0 r) (h:yH p0 c0=some r):Sc 407 [aX (M.Field.en p0),(false,[.ptr [.str c0]])] [rB r]:=by unfold yH at h;exact sgo 8 [.tmp 3] Tryz.func407
theorem aFs (p0:List M.Field) (p1:M.Field->Option Bool) (f1_:FuncId) (k1_:List D) (hp1 : ∀z0 r,p1 z0=some r->kR Tryz.prog f1_ ((true,M.Field.en z0) ::  k1_.map λc=>(false,[c])) [(false,[.ro (.bool r)])]) (r:Int) (h:mF p0 p1=some r):Sc 406 [(false,[.sl (List.map M.Field.en p0)]),(false,[.fn f1_ k1_])] [rI r]:=by
 have i1:=inv λm s=>∃v8:Int,(s.t 0=vL M.Field.en p0/\s.t 1 = .v false [.dat (.fn f1_ k1_)]/\s.t 7=vI (List.length p0:Int)/\s.t 8=vI v8)/\dK p0 p1 m v8=some r
 have e1:=@dK.eq_2
 unfold mF at h
 exact sgo 19 [.tmp 4] Tryz.func406
theorem aFd (p0 p1 r) (h:xX p0 p1=some r):Sc 245 [aX (M.aGm.en p0),aB p1] [rI r]:=by unfold xX at h;exact sgo 10 [.tmp 4] Tryz.func245
instance:bF 245 (type_of% @aFd):=⟨@aFd⟩
theorem c57 (p0:List M.aG) (p1:List M.aG) (p2:M.aG->M.aG->Option Bool) (f2_:FuncId) (k2_:List D) (hp2 : ∀z0 z1 r,p2 z0 z1=some r->kR Tryz.prog f2_ ((true,M.aG.en z0)::(true,M.aG.en z1) ::  k2_.map λc=>(false,[c])) [(false,[.ro (.bool r)])]) (r:Bool) (h:kJ p0 p1 p2=some r):Sc 57 [(false,[.sl (List.map M.aG.en p0)]),(false,[.sl (List.map M.aG.en p1)]),(false,[.fn f2_ k2_])] [rB r]:=by
 have i1:=inv λm s=>∃aa:Int,(s.t 1=vL M.aG.en p1/\s.t 2 = .v false [.dat (.fn f2_ k2_)]/\s.t 15=vL M.aG.en p0/\s.t 16=vI (List.length p0:Int)/\s.t 17=vI aa)/\eI p0 p1 p2 m aa=some r
 have e1:=@eI.eq_2
 unfold kJ at h
 exact sgo 32 [.tmp 6] Tryz.func57
theorem aFy (p0:List M.aG1) (p1:List M.aG1) (p2:M.aG1->M.aG1->Option Bool) (f2_:FuncId) (k2_:List D) (hp2 : ∀z0 z1 r,p2 z0 z1=some r->kR Tryz.prog f2_ ((true,M.aG1.en z0)::(true,M.aG1.en z1) ::  k2_.map λc=>(false,[c])) [(false,[.ro (.bool r)])]) (r:Bool) (h:mO p0 p1 p2=some r):Sc 262 [(false,[.sl (List.map M.aG1.en p0)]),(false,[.sl (List.map M.aG1.en p1)]),(false,[.fn f2_ k2_])] [rB r]:=by
 have i1:=inv λm s=>∃aa:Int,(s.t 1=vL M.aG1.en p1/\s.t 2 = .v false [.dat (.fn f2_ k2_)]/\s.t 15=vL M.aG1.en p0/\s.t 16=vI (List.length p0:Int)/\s.t 17=vI aa)/\fW p0 p1 p2 m aa=some r
 have e1:=@fW.eq_2
 unfold mO at h
 exact sgo 32 [.tmp 6] Tryz.func262
theorem aD2 (p0 p1 r) (h:sL p0 p1=some r):Sc 373 [aL M.Field.en p0,aL M.Field.en p1] [rB r]:=by
 have i1:=inv λm s=>∃aa:Int,(s.t 0=vL M.Field.en p0/\s.t 1=vL M.Field.en p1/\s.t 12=vI (List.length p0:Int)/\s.t 13=vI aa)/\jG p0 p1 m aa=some r
 have e1:=@jG.eq_2
 unfold sL at h
 exact sgo 26 [.tmp 4] Tryz.func373
instance:bF 373 (type_of% @aD2):=⟨@aD2⟩
theorem c89 (p0:List M.bJ) (p1:List M.bJ) (p2:M.bJ->M.bJ->Option Bool) (f2_:FuncId) (k2_:List D) (hp2 : ∀z0 z1 r,p2 z0 z1=some r->kR Tryz.prog f2_ ((true,M.bJ.en z0)::(true,M.bJ.en z1) ::  k2_.map λc=>(false,[c])) [(false,[.ro (.bool r)])]) (r:Bool) (h:mN p0 p1 p2=some r):Sc 89 [(false,[.sl (List.map M.bJ.en p0)]),(false,[.sl (List.map M.bJ.en p1)]),(false,[.fn f2_ k2_])] [rB r]:=by
 have i1:=inv λm s=>∃aa:Int,(s.t 1=vL M.bJ.en p1/\s.t 2 = .v false [.dat (.fn f2_ k2_)]/\s.t 15=vL M.bJ.en p0/\s.t 16=vI (List.length p0:Int)/\s.t 17=vI aa)/\fY p0 p1 p2 m aa=some r
 have e1:=@fY.eq_2
 unfold mN at h
 exact sgo 32 [.tmp 6] Tryz.func89
theorem aFP (p0 p1 r) (h:sG p0 p1=some r):Sc 260 [aL M.Instr.en p0,aL M.Instr.en p1] [rB r]:=by
 have i1:=inv λm s=>∃aa:Int,(s.t 0=vL M.Instr.en p0/\s.t 1=vL M.Instr.en p1/\s.t 12=vI (List.length p0:Int)/\s.t 13=vI aa)/\jB p0 p1 m aa=some r
 have e1:=@jB.eq_2
 unfold sG at h
 exact sgo 26 [.tmp 4] Tryz.func260
instance:bF 260 (type_of% @aFP):=⟨@aFP⟩
theorem c91 (p0 p1 r) (h:tZ p0 p1=some r):Sc 91 [aL M.nW.en p0,aL M.nW.en p1] [rB r]:=by
 have i1:=inv λm s=>∃aa:Int,(s.t 0=vL M.nW.en p0/\s.t 1=vL M.nW.en p1/\s.t 12=vI (List.length p0:Int)/\s.t 13=vI aa)/\kB p0 p1 m aa=some r
 have e1:=@kB.eq_2
 unfold tZ at h
 exact sgo 26 [.tmp 4] Tryz.func91
theorem c95 (p0:List M.aGr) (p1:List M.aGr) (p2:M.aGr->M.aGr->Option Bool) (f2_:FuncId) (k2_:List D) (hp2 : ∀z0 z1 r,p2 z0 z1=some r->kR Tryz.prog f2_ ((true,M.aGr.en z0)::(true,M.aGr.en z1) ::  k2_.map λc=>(false,[c])) [(false,[.ro (.bool r)])]) (r:Bool) (h:kM p0 p1 p2=some r):Sc 95 [(false,[.sl (List.map M.aGr.en p0)]),(false,[.sl (List.map M.aGr.en p1)]),(false,[.fn f2_ k2_])] [rB r]:=by
 have i1:=inv λm s=>∃aa:Int,(s.t 1=vL M.aGr.en p1/\s.t 2 = .v false [.dat (.fn f2_ k2_)]/\s.t 15=vL M.aGr.en p0/\s.t 16=vI (List.length p0:Int)/\s.t 17=vI aa)/\eH p0 p1 p2 m aa=some r
 have e1:=@eH.eq_2
 unfold kM at h
 exact sgo 32 [.tmp 6] Tryz.func95
theorem aFD (p0 p1 r) (h:nY p0 p1=some r):Sc 165 [aL M.aP.en p0,aL M.aP.en p1] [rB r]:=by
 have i1:=inv λm s=>∃aa:Int,(s.t 0=vL M.aP.en p0/\s.t 1=vL M.aP.en p1/\s.t 12=vI (List.length p0:Int)/\s.t 13=vI aa)/\gM p0 p1 m aa=some r
 have e1:=@gM.eq_2
 unfold nY at h
 exact sgo 26 [.tmp 4] Tryz.func165
instance:bF 165 (type_of% @aFD):=⟨@aFD⟩
end Go.Proofs.YtipmihbgjolaaaaGreat.gen
