/-
  Helper text. No conditions.
-/
import Derived.Test.YtipmihbgjolaaaaGreatLoadedFilesTi
set_option linter.unusedVariables false
set_option linter.unusedSimpArgs false
namespace Go.Proofs.YtipmihbgjolaaaaGreat.gen
open Go Go.Sh
set_option maxRecDepth 20000
set_option maxHeartbeats 4000000
theorem aB1 (p0 r) (h:xA p0=some r):Sc 303 [aX (M.aM.en p0)] [(true,M.aM.rs r)]:=by unfold xA at h;exact sgo 9 [.cell 2 43] Tryz.func303
instance:bH 303 (type_of% @aB1):=⟨@aB1⟩
theorem aCR (p0 r) (h:uV p0=some r):Sc 185 [aX (M.aFI.en p0)] [(true,M.aFI.rs r)]:=by unfold uV at h;exact sgo 16 [.cell 2 94] Tryz.func185
instance:bH 185 (type_of% @aCR):=⟨@aCR⟩
theorem aDf (p0 r) (h:xR p0=some r):Sc 169 [aX (M.aR.en p0)] [(true,M.aR.rs r)]:=by unfold xR at h;exact sgo 8 [.cell 2 68] Tryz.func169
instance:bH 169 (type_of% @aDf):=⟨@aDf⟩
theorem aAu (p0 r) (h:zP p0=some r):Sc 171 [aX (M.aFD.en p0)] [(true,M.aFD.rs r)]:=by unfold zP at h;exact sgo 9 [.cell 2 85] Tryz.func171
instance:bH 171 (type_of% @aAu):=⟨@aAu⟩
theorem aAp (p0 p1 r) (h:uO p0 p1=some r):Sc 326 [aI p0,aI p1] [rI r]:=by unfold uO at h;exact sgo 13 [.tmp 4] Tryz.func326
instance:bH 326 (type_of% @aAp):=⟨@aAp⟩
set_option maxRecDepth 100000 in
set_option maxHeartbeats 4000000 in
theorem aCe (p0:ByteArray) (p1:ByteArray) (r:Int) (h:nD p0 p1=some r):lO Tryz.prog 372 [(false,[.str p0]),(false,[.str p1])] [(false,[.ro (.int .i64 r)])]:=by
 refine Pz Tryz.func372 rfl qf λw => ?_
 cases h
 go_enter Tryz.func372,Tryz.ntmps372
 go_wp2
 rw [run_callFunc_extern Tryz.func396 (by kernel_rfl) (by kernel_rfl) (by kernel_rfl) (e:=Extern.BytealgCompare.compare) (by kernel_rfl),Lib.run_compareString]
 simp only [Result.andThen]
 rw [Oper.upon_value]
 go_wp2
 go_ret
 exact ⟨rfl,rfl⟩
instance:bH 372 (type_of% @aCe):=⟨@aCe⟩
theorem aEL (p0 c0 r) (h:uQ p0 c0=some r):Sc 362 [aX (M.aC.en p0),(false,[.ptr [.str c0]])] [rB r]:=by unfold uQ at h;exact sgo 8 [.tmp 3] Tryz.func362
theorem aER (p0:List M.aC) (p1:M.aC->Option Bool) (f1_:FuncId) (k1_:List D) (hp1 : ∀z0 r,p1 z0=some r->lO Tryz.prog f1_ ((true,M.aC.en z0) ::  k1_.map λc=>(false,[c])) [(false,[.ro (.bool r)])]) (r:Int) (h:lG p0 p1=some r):Sc 361 [(false,[.sl (List.map M.aC.en p0)]),(false,[.fn f1_ k1_])] [rI r]:=by
 have i1:=inv λm s=>∃v8:Int,(s.t 0=vL M.aC.en p0/\s.t 1 = .v false [.dat (.fn f1_ k1_)]/\s.t 7=vI (List.length p0:Int)/\s.t 8=vI v8)/\dJ p0 p1 m v8=some r
 have e1:=@dJ.eq_2
 unfold lG at h
 exact sgo 19 [.tmp 4] Tryz.func361
theorem aEh (p0 c0 r) (h:uR p0 c0=some r):Sc 195 [aX (M.aFE.en p0),(false,[.ptr [.int .i64 c0]])] [rB r]:=by unfold uR at h;exact sgo 8 [.tmp 3] Tryz.func195
theorem aEx (p0:List M.aFL) (p1:List M.aFL) (p2:M.aFL->M.aFL->Option Bool) (f2_:FuncId) (k2_:List D) (hp2 : ∀z0 z1 r,p2 z0 z1=some r->lO Tryz.prog f2_ ((true,M.aFL.en z0)::(true,M.aFL.en z1) ::  k2_.map λc=>(false,[c])) [(false,[.ro (.bool r)])]) (r:Bool) (h:jW p0 p1 p2=some r):Sc 318 [(false,[.sl (List.map M.aFL.en p0)]),(false,[.sl (List.map M.aFL.en p1)]),(false,[.fn f2_ k2_])] [rB r]:=by
 have i1:=inv λm s=>∃aa:Int,(s.t 1=vL M.aFL.en p1/\s.t 2 = .v false [.dat (.fn f2_ k2_)]/\s.t 15=vL M.aFL.en p0/\s.t 16=vI (List.length p0:Int)/\s.t 17=vI aa)/\eE p0 p1 p2 m aa=some r
 have e1:=@eE.eq_2
 unfold jW at h
 exact sgo 32 [.tmp 6] Tryz.func318
theorem aCU (p0 p1 r) (h:tI p0 p1=some r):Sc 191 [aL enB p0,aL enB p1] [rB r]:=by
 have i1:=inv λm s=>∃aa:Int,(s.t 0=vL enB p0/\s.t 1=vL enB p1/\s.t 12=vI (List.length p0:Int)/\s.t 13=vI aa)/\jR p0 p1 m aa=some r
 have e1:=@jR.eq_2
 unfold tI at h
 exact sgo 26 [.tmp 4] Tryz.func191
instance:bH 191 (type_of% @aCU):=⟨@aCU⟩
theorem aEK (p0:List M.aFP) (p1:List M.aFP) (p2:M.aFP->M.aFP->Option Bool) (f2_:FuncId) (k2_:List D) (hp2 : ∀z0 z1 r,p2 z0 z1=some r->lO Tryz.prog f2_ ((true,M.aFP.en z0)::(true,M.aFP.en z1) ::  k2_.map λc=>(false,[c])) [(false,[.ro (.bool r)])]) (r:Bool) (h:mB p0 p1 p2=some r):Sc 262 [(false,[.sl (List.map M.aFP.en p0)]),(false,[.sl (List.map M.aFP.en p1)]),(false,[.fn f2_ k2_])] [rB r]:=by
 have i1:=inv λm s=>∃aa:Int,(s.t 1=vL M.aFP.en p1/\s.t 2 = .v false [.dat (.fn f2_ k2_)]/\s.t 15=vL M.aFP.en p0/\s.t 16=vI (List.length p0:Int)/\s.t 17=vI aa)/\fN p0 p1 p2 m aa=some r
 have e1:=@fN.eq_2
 unfold mB at h
 exact sgo 32 [.tmp 6] Tryz.func262
theorem aCY (p0 p1 r) (h:rK p0 p1=some r):Sc 373 [aL M.Field.en p0,aL M.Field.en p1] [rB r]:=by
 have i1:=inv λm s=>∃aa:Int,(s.t 0=vL M.Field.en p0/\s.t 1=vL M.Field.en p1/\s.t 12=vI (List.length p0:Int)/\s.t 13=vI aa)/\iY p0 p1 m aa=some r
 have e1:=@iY.eq_2
 unfold rK at h
 exact sgo 26 [.tmp 4] Tryz.func373
instance:bH 373 (type_of% @aCY):=⟨@aCY⟩
theorem c89 (p0:List M.bC) (p1:List M.bC) (p2:M.bC->M.bC->Option Bool) (f2_:FuncId) (k2_:List D) (hp2 : ∀z0 z1 r,p2 z0 z1=some r->lO Tryz.prog f2_ ((true,M.bC.en z0)::(true,M.bC.en z1) ::  k2_.map λc=>(false,[c])) [(false,[.ro (.bool r)])]) (r:Bool) (h:mA p0 p1 p2=some r):Sc 89 [(false,[.sl (List.map M.bC.en p0)]),(false,[.sl (List.map M.bC.en p1)]),(false,[.fn f2_ k2_])] [rB r]:=by
 have i1:=inv λm s=>∃aa:Int,(s.t 1=vL M.bC.en p1/\s.t 2 = .v false [.dat (.fn f2_ k2_)]/\s.t 15=vL M.bC.en p0/\s.t 16=vI (List.length p0:Int)/\s.t 17=vI aa)/\fP p0 p1 p2 m aa=some r
 have e1:=@fP.eq_2
 unfold mA at h
 exact sgo 32 [.tmp 6] Tryz.func89
theorem c91 (p0 p1 r) (h:sZ p0 p1=some r):Sc 91 [aL M.mZ.en p0,aL M.mZ.en p1] [rB r]:=by
 have i1:=inv λm s=>∃aa:Int,(s.t 0=vL M.mZ.en p0/\s.t 1=vL M.mZ.en p1/\s.t 12=vI (List.length p0:Int)/\s.t 13=vI aa)/\jT p0 p1 m aa=some r
 have e1:=@jT.eq_2
 unfold sZ at h
 exact sgo 26 [.tmp 4] Tryz.func91
theorem aBa (p0 p1 r) (h:oP p0 p1=some r):Sc 163 [aL enS p0,aL enS p1] [rB r]:=by
 have i1:=inv λm s=>∃aa:Int,(s.t 0=vL enS p0/\s.t 1=vL enS p1/\s.t 12=vI (List.length p0:Int)/\s.t 13=vI aa)/\gW p0 p1 m aa=some r
 have e1:=@gW.eq_2
 unfold oP at h
 exact sgo 26 [.tmp 4] Tryz.func163
instance:bH 163 (type_of% @aBa):=⟨@aBa⟩
theorem aEd (p0 p1 r) (h:zF p0 p1=some r):Sc 184 [aX (M.aFB.en p0),aI p1] [rW 157 3 M.tB.en r]:=by
 have i1:=inv λm s=>∃aa:Int,∃r8:List M.tB,∃u8:Nat,(s.t 1=vI p1/\s.t 5=vR 100008 u8/\s.t 10=vL M.tB.en p0.aFa/\s.t 11=vI (List.length p0.aFa:Int)/\s.t 12=vI aa/\s.h 100008=(u8,oW 157 3 M.tB.en r8))/\jM p0 p1 m aa r8=some r
 have e1:=@jM.eq_2
 unfold zF at h
 exact sgo 26 [.tmp 4] Tryz.func184
end Go.Proofs.YtipmihbgjolaaaaGreat.gen
