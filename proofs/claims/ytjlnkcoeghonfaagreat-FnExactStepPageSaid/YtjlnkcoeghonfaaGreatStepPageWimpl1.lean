/-
  Helper text. No conditions.
-/
import Derived.Test.YtjlnkcoeghonfaaGreatStepPageTi
set_option linter.all false
namespace Go.Proofs.YtjlnkcoeghonfaaGreat.gen
open Go Go.Sh
set_option maxRecDepth 20000
set_option maxHeartbeats 4000000
instance:aZ 406 (∀p0 r (h:lZ p0=some r),Sc 406 [aX (M.aM.en p0)] [(true,M.aM.rs r)]):=⟨λp0 r h=>by unfold lZ at h;exact sgo 9 [.cell 2 78] Tryz.func406⟩
instance:aZ 405 (∀p0 r (h:Bu p0=some r),Sc 405 [aX (M.aJx.en p0)] [(true,M.aJx.rs r)]):=⟨λp0 r h=>by unfold Bu at h;exact sgo 8 [.cell 2 80] Tryz.func405⟩
instance:aZ 135 (∀p0 r (h:zQ p0=some r),Sc 135 [aX (M.aQ.en p0)] [(true,M.aQ.rs r)]):=⟨λp0 r h=>by unfold zQ at h;exact sgo 8 [.cell 2 43] Tryz.func135⟩
instance:aZ 137 (∀p0 r (h:Bp p0=some r),Sc 137 [aX (M.aJj.en p0)] [(true,M.aJj.rs r)]):=⟨λp0 r h=>by unfold Bp at h;exact sgo 9 [.cell 2 151] Tryz.func137⟩
theorem aIN(p0 c0 r)(h:vO p0 c0=some r):Sc 140 [aX (M.bD.en p0),(false,[.ptr [.int .i64 c0]])] [rB r]:=by unfold vO at h;exact sgo 8 [.tmp 3] Tryz.func140
theorem aJQ(I:List M.bD)(J:M.bD->Option Bool)(j:FuncId)(C:List D)(hp1:∀z0 r,J z0=some r->pC Tryz.prog j ((true,M.bD.en z0)::  C.map λc=>(false,[c])) [(false,[.ro (.bool r)])])(r:Int)(h:mP I J=some r):Sc 139 [(false,[.sl (List.map M.bD.en I)]),(false,[.fn j C])] [rI r]:=by
 have i1:=inv λm s=>∃U:Int,(s.t 0=vL M.bD.en I/\s.t 1=.v false [.dat (.fn j C)]/\s.t 7=vI (List.length I:Int)/\s.t 8=vI U)/\dX I J m U=some r
 have e1:=@dX.eq_2
 unfold mP at h
 exact sgo 19 [.tmp 4] Tryz.func139
instance:aZ 46 (∀p0 p1 r (h:An p0 p1=some r),Sc 46 [aX (M.World.en p0),aI p1] [rI r]):=⟨λp0 p1 r h=>by
 unfold An at h
 simp only[EN]
 refine sgn 9 [.tmp 4] Tryz.func46 λbase wd => ?_
 refine sq (rn ?_)
 refine an (sq ?_)
 obtain⟨x1,h2,h⟩:=bind_some h
 refine rn1 (aJQ p0.aJu (λz0=>vO z0 p1) 140 [.ptr [.int .i64 p1]] (λz0 r hr=>aIN z0 p1 r hr) x1 h2) ?_
 refine an (rt ?_)
 cases h
 simp[Ret,TB,EN, *]⟩
theorem aIu(p0 c0 c1 r)(h:tU p0 c0 c1=some r):Sc 481 [aX (M.aJo.en p0),(false,[.ptr [.str c0]]),(false,[.ptr [.str c1]])] [rB r]:=by unfold tU at h;exact sgo 15 [.tmp 4] Tryz.func481
theorem aIh(I:List M.aJo)(J:M.aJo->Option Bool)(j:FuncId)(C:List D)(hp1:∀z0 r,J z0=some r->pC Tryz.prog j ((true,M.aJo.en z0)::  C.map λc=>(false,[c])) [(false,[.ro (.bool r)])])(r:Int)(h:kJ I J=some r):Sc 480 [(false,[.sl (List.map M.aJo.en I)]),(false,[.fn j C])] [rI r]:=by
 have i1:=inv λm s=>∃U:Int,(s.t 0=vL M.aJo.en I/\s.t 1=.v false [.dat (.fn j C)]/\s.t 7=vI (List.length I:Int)/\s.t 8=vI U)/\dC I J m U=some r
 have e1:=@dC.eq_2
 unfold kJ at h
 exact sgo 19 [.tmp 4] Tryz.func480
instance:aZ 377 (∀p0 p1 p2 r (h:oP p0 p1 p2=some r),Sc 377 [aX (M.aJs.en p0),aS p1,aS p2] [rI r]):=⟨λp0 p1 p2 r h=>by
 unfold oP at h
 simp only[EN]
 refine sgn 11 [.tmp 6] Tryz.func377 λbase wd => ?_
 refine sq (rn ?_)
 refine an (sq ?_)
 obtain⟨x1,h2,h⟩:=bind_some h
 refine rn1 (aIh p0.aJt (λz0=>tU z0 p1 p2) 481 [.ptr [.str p1],.ptr [.str p2]] (λz0 r hr=>aIu z0 p1 p2 r hr) x1 h2) ?_
 refine an (rt ?_)
 cases h
 simp[Ret,TB,EN, *]⟩
set_option maxRecDepth 100000 in
theorem aHZ (j:ByteArray) (C:ByteArray) (r:Int) (h:nL j C=some r):pC Tryz.prog 552 [(false,[.str j]),(false,[.str C])] [(false,[.ro (.int .i64 r)])]:=by
 refine SL Tryz.func552 rfl jH λw => ?_
 cases h
 go_enter Tryz.func552,Tryz.ntmps552
 go_wp2
 rw [run_callFunc_extern Tryz.func587 (by kernel_rfl) (by kernel_rfl) (by kernel_rfl) (e:=Extern.BytealgCompare.compare) (by kernel_rfl),Lib.run_compareString]
 simp only [Result.andThen]
 rw [Oper.upon_value]
 go_wp2
 go_ret
 exact ⟨rfl,rfl⟩
instance:aZ 552 (type_of%@aHZ):=⟨@aHZ⟩
instance:aZ 477 (∀p0 p1 r (h:BN p0 p1=some r),Sc 477 [aS p0,aS p1] [rI r]):=⟨λp0 p1 r h=>by unfold BN at h;exact sgo 8 [.tmp 4] Tryz.func477⟩
instance:aZ 256 (∀p0 p1 r (h:oK p0 p1=some r),Sc 256 [aX (M.aJa.en p0),aX (M.aJa.en p1)] [rB r]):=⟨λp0 p1 r h=>by unfold oK at h;exact sgo 24 [.tmp 4] Tryz.func256⟩
theorem aJU(p0 c0 c1 r)(h:sL p0 c0 c1=some r):Sc 260 [aX (M.aJa.en p0),(false,[.ptr [.str c0]]),(false,[.ptr [.str c1]])] [rB r]:=by unfold sL at h;exact sgo 15 [.tmp 4] Tryz.func260
theorem aI7(I:List M.aJa)(J:M.aJa->Option Bool)(j:FuncId)(C:List D)(hp1:∀z0 r,J z0=some r->pC Tryz.prog j ((true,M.aJa.en z0)::  C.map λc=>(false,[c])) [(false,[.ro (.bool r)])])(r:Int)(h:kE I J=some r):Sc 259 [(false,[.sl (List.map M.aJa.en I)]),(false,[.fn j C])] [rI r]:=by
 have i1:=inv λm s=>∃U:Int,(s.t 0=vL M.aJa.en I/\s.t 1=.v false [.dat (.fn j C)]/\s.t 7=vI (List.length I:Int)/\s.t 8=vI U)/\dB I J m U=some r
 have e1:=@dB.eq_2
 unfold kE at h
 exact sgo 19 [.tmp 4] Tryz.func259
instance:aZ 145 (∀p0 p1 p2 r (h:lL p0 p1 p2=some r),Sc 145 [aX (M.aC.en p0),aS p1,aS p2] [rI r]):=⟨λp0 p1 p2 r h=>by
 unfold lL at h
 simp only[EN]
 refine sgn 11 [.tmp 6] Tryz.func145 λbase wd => ?_
 refine sq (rn ?_)
 refine an (sq ?_)
 obtain⟨x1,h2,h⟩:=bind_some h
 refine rn1 (aI7 p0.aJh (λz0=>sL z0 p1 p2) 260 [.ptr [.str p1],.ptr [.str p2]] (λz0 r hr=>aJU z0 p1 p2 r hr) x1 h2) ?_
 refine an (rt ?_)
 cases h
 simp[Ret,TB,EN, *]⟩
instance:aZ 261 (∀p0 p1 r (h:lT p0 p1=some r),Sc 261 [aL enS p0,aS p1] [rI r]):=⟨λp0 p1 r h=>by
 have i1:=inv λm s=>∃v8:Int,(s.t 0=vL enS p0/\s.t 1=vS p1/\s.t 7=vI (List.length p0:Int)/\s.t 8=vI v8)/\cH p0 p1 m v8=some r
 have e1:=@cH.eq_2
 unfold lT at h
 exact sgo 19 [.tmp 4] Tryz.func261⟩
instance:aZ 147 (∀p0 r (h:nV p0=some r),Sc 147 [aS p0] [rI r]):=⟨λp0 r h=>by unfold nV at h;exact sgo 6 [.tmp 2] Tryz.func147⟩
instance:aZ 151 (∀p0 r (h:yC p0=some r),Sc 151 [aI p0] [rI r]):=⟨λp0 r h=>by unfold yC at h;exact sgo 6 [.tmp 2] Tryz.func151⟩
theorem aIb(p0 c0 r)(h:vE p0 c0=some r):Sc 479 [aX (M.aJs.en p0),(false,[.ptr [.int .i64 c0]])] [rB r]:=by unfold vE at h;exact sgo 8 [.tmp 3] Tryz.func479
theorem aIv(I:List M.aJs)(J:M.aJs->Option Bool)(j:FuncId)(C:List D)(hp1:∀z0 r,J z0=some r->pC Tryz.prog j ((true,M.aJs.en z0)::  C.map λc=>(false,[c])) [(false,[.ro (.bool r)])])(r:Int)(h:lP I J=some r):Sc 478 [(false,[.sl (List.map M.aJs.en I)]),(false,[.fn j C])] [rI r]:=by
 have i1:=inv λm s=>∃U:Int,(s.t 0=vL M.aJs.en I/\s.t 1=.v false [.dat (.fn j C)]/\s.t 7=vI (List.length I:Int)/\s.t 8=vI U)/\dM I J m U=some r
 have e1:=@dM.eq_2
 unfold lP at h
 exact sgo 19 [.tmp 4] Tryz.func478
instance:aZ 376 (∀p0 p1 r (h:Am p0 p1=some r),Sc 376 [aX (M.aO.en p0),aI p1] [rI r]):=⟨λp0 p1 r h=>by
 unfold Am at h
 simp only[EN]
 refine sgn 9 [.tmp 4] Tryz.func376 λbase wd => ?_
 refine sq (rn ?_)
 refine an (sq ?_)
 obtain⟨x1,h2,h⟩:=bind_some h
 refine rn1 (aIv p0.aJk (λz0=>vE z0 p1) 479 [.ptr [.int .i64 p1]] (λz0 r hr=>aIb z0 p1 r hr) x1 h2) ?_
 refine an (rt ?_)
 cases h
 simp[Ret,TB,EN, *]⟩
instance:aZ 482 (∀p0 p1 r (h:pK p0 p1=some r),Sc 482 [aL enS p0,aS p1] [rB r]):=⟨λp0 p1 r h=>by unfold pK at h;exact sgo 9 [.tmp 4] Tryz.func482⟩
instance:aZ 487 (∀p0 p1 r (h:sX p0 p1=some r),Sc 487 [aL enB p0,aL enB p1] [rB r]):=⟨λp0 p1 r h=>by
 have i1:=inv λm s=>∃aa:Int,(s.t 0=vL enB p0/\s.t 1=vL enB p1/\s.t 12=vI (List.length p0:Int)/\s.t 13=vI aa)/\kC p0 p1 m aa=some r
 have e1:=@kC.eq_2
 unfold sX at h
 exact sgo 26 [.tmp 4] Tryz.func487⟩
instance aCU:aZ 387 (∀p0 p1 r (h:lH p0 p1=some r),Sc 387 [aL enB p0,aL enB p1] [rB r]):=⟨λp0 p1 r h=>by unfold lH at h;exact sgo 8 [.tmp 4] Tryz.func387⟩
theorem aJA(p0 c0 r)(h:yL p0 c0=some r):Sc 392 [aX (M.aJl.en p0),(false,[.ptr [.int .i64 c0.aJr,.int .i64 c0.N,.str c0.aJ2]])] [rB r]:=by unfold yL at h;exact sgo 8 [.tmp 3] Tryz.func392
theorem aHO(I:List M.aJl)(J:M.aJl->Option Bool)(j:FuncId)(C:List D)(hp1:∀z0 r,J z0=some r->pC Tryz.prog j ((true,M.aJl.en z0)::  C.map λc=>(false,[c])) [(false,[.ro (.bool r)])])(r:Int)(h:iM I J=some r):Sc 391 [(false,[.sl (List.map M.aJl.en I)]),(false,[.fn j C])] [rI r]:=by
 have i1:=inv λm s=>∃U:Int,(s.t 0=vL M.aJl.en I/\s.t 1=.v false [.dat (.fn j C)]/\s.t 7=vI (List.length I:Int)/\s.t 8=vI U)/\dW I J m U=some r
 have e1:=@dW.eq_2
 unfold iM at h
 exact sgo 19 [.tmp 4] Tryz.func391
instance aCI:aZ 271 (∀p0 p1 r (h:kF p0 p1=some r),Sc 271 [aX (M.aD.en p0),aX (M.Key.en p1)] [rI r]):=⟨λp0 p1 r h=>by
 unfold kF at h
 simp only[EN]
 refine sgn 9 [.tmp 4] Tryz.func271 λbase wd => ?_
 refine sq (rn ?_)
 refine an (sq ?_)
 obtain⟨x1,h2,h⟩:=bind_some h
 refine rn1 (aHO p0.aJe (λz0=>yL z0 p1) 392 [.ptr [.int .i64 p1.aJr,.int .i64 p1.N,.str p1.aJ2]] (λz0 r hr=>aJA z0 p1 r hr) x1 h2) ?_
 refine an (rt ?_)
 cases h
 simp[Ret,TB,EN, *]⟩
instance:aZ 161 (∀p0 r (h:nG p0=some r),Sc 161 [aI p0] [(true,M.Key.rs r)]):=⟨λp0 r h=>by unfold nG at h;exact sgo 5 [.cell 2 216] Tryz.func161⟩
