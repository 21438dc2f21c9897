/-
  Helper text. No conditions.
-/
import Derived.Test.YtjlnkcoeghonfaaGreatRunPageTi
set_option linter.all false
namespace Go.Proofs.YtjlnkcoeghonfaaGreat.gen
open Go Go.Sh
set_option maxRecDepth 20000
set_option maxHeartbeats 4000000
instance:aW 397 (∀p0 r (h:dL p0=some r),Sc 397 [aL enB p0] [rW 5 1 enB r]):=⟨λp0 r h=>by unfold dL at h;exact sgo 6 [.tmp 2] Tryz.func397⟩
instance:aW 378 (∀p0 r (h:lA p0=some r),Sc 378 [aX (M.aJo.en p0)] [(true,M.aJo.rs r)]):=⟨λp0 r h=>by unfold lA at h;exact sgo 8 [.cell 2 107] Tryz.func378⟩
instance:aW 367 (∀p0 r (h:sU p0=some r),Sc 367 [aX (M.aO.en p0)] [(true,M.aO.rs r)]):=⟨λp0 r h=>by
 have i1:=Mt [.b 3 0 7050100 277 2] λm s=>∃aj:Int,∃ah:List M.aJ0,∃aa:Nat,(s.t 2=vP 2 1 0/\s.t 3=vP 3 1 0/\s.t 11=vL M.aJ0.en p0.aJs/\s.t 12=vI (List.length p0.aJs:Int)/\s.t 13=vI aj/\s.h 2=(1,oB 66 [.nil])/\s.h 3=(1,oB 66 [.row 7050100 aa])/\s.h 7050100=(aa,oW 277 2 M.aJ0.en ah))/\eR p0 m aj ah=some r
 have e1:=@eR.eq_2
 have i2:=λ(aj:Int) (ah:List M.aJ0) (ak:M.aJ0) (al:Int->List M.aJx->Option M.aO) (s1:St) (aa:Nat)=>Mt [.b 6 1 7050000 279 7] λm s=>∃ai:Int,∃ae:List M.aJx,∃af:Nat,(s.t 2=vP 2 1 0/\s.t 3=vP 3 1 0/\s.t 6=vP 6 ((s1.h 6).1+1) 0/\s.t 11=vL M.aJ0.en p0.aJs/\s.t 12=vI (List.length p0.aJs:Int)/\s.t 13=vI aj/\s.t 21=vL M.aJx.en ak.aJ1/\s.t 22=vI (List.length ak.aJ1:Int)/\s.t 23=vI ai/\s.h 2=(1,oB 66 [.nil])/\s.h 3=(1,oB 66 [.row 7050100 aa])/\s.h 6=((s1.h 6).1+1,oB 277 [cI ak.aJl,.row 7050000 af])/\s.h 7050000=(af,oW 279 7 M.aJx.en ae)/\s.h 7050100=(aa,oW 277 2 M.aJ0.en ah))/\gH ak al m ai ae=some r
 have e2:=@gH.eq_2
 unfold sU at h
 exact sgo 46 [.cell 2 66] Tryz.func367⟩
instance:aW 406 (∀p0 r (h:mB p0=some r),Sc 406 [aX (M.aM.en p0)] [(true,M.aM.rs r)]):=⟨λp0 r h=>by unfold mB at h;exact sgo 9 [.cell 2 78] Tryz.func406⟩
instance:aW 405 (∀p0 r (h:Bz p0=some r),Sc 405 [aX (M.aJ7.en p0)] [(true,M.aJ7.rs r)]):=⟨λp0 r h=>by unfold Bz at h;exact sgo 8 [.cell 2 80] Tryz.func405⟩
instance:aW 149 (∀p0 r (h:mQ p0=some r),Sc 149 [aX (M.aJn.en p0)] [(true,M.aJn.rs r)]):=⟨λp0 r h=>by unfold mQ at h;exact sgo 16 [.cell 2 89] Tryz.func149⟩
instance:aW 48 (∀p0 r (h:iC p0=some r),Sc 48 [aX (M.bD.en p0)] [(true,M.bD.rs r)]):=⟨λp0 r h=>by unfold iC at h;exact sgo 13 [.cell 2 91] Tryz.func48⟩
instance:aW 134 (∀p0 r (h:zP p0=some r),Sc 134 [aL M.bD.en p0] [rW 91 11 M.bD.en r]):=⟨λp0 r h=>by
 have i1:=inv λm s=>∃v9:Int,∃r6:List M.bD,∃u6:Nat,(s.t 3=vR 100006 u6/\s.t 7=vL M.bD.en p0/\s.t 8=vI (List.length p0:Int)/\s.t 9=vI v9/\s.h 100006=(u6,oW 91 11 M.bD.en r6))/\lE p0 m v9 r6=some r
 have e1:=@lE.eq_2
 unfold zP at h
 exact sgo 20 [.tmp 2] Tryz.func134⟩
instance:aW 135 (∀p0 r (h:zS p0=some r),Sc 135 [aX (M.aP.en p0)] [(true,M.aP.rs r)]):=⟨λp0 r h=>by unfold zS at h;exact sgo 8 [.cell 2 43] Tryz.func135⟩
instance:aW 137 (∀p0 r (h:Bt p0=some r),Sc 137 [aX (M.aJr.en p0)] [(true,M.aJr.rs r)]):=⟨λp0 r h=>by unfold Bt at h;exact sgo 9 [.cell 2 151] Tryz.func137⟩
instance Qw:aW 141 (∀p0 p1 p2 r (h:aV p0 p1 p2=some r),Sc 141 [aI p0,aI p1,aI p2] [rB r]):=⟨λp0 p1 p2 r h=>by unfold aV at h;exact sgo 15 [.tmp 6] Tryz.func141⟩
instance:aW 373 (∀p0 p1 p2 r (h:BP p0 p1 p2=some r),Sc 373 [aS p0,aI p1,aB p2] [rB r]):=⟨λp0 p1 p2 r h=>by
 have i1:=inv λm s=>∃v7:Int,(s.t 0=vS p0/\s.t 1=vI p1/\s.t 2=vB p2/\s.t 7=vI v7)/\iI p0 p1 p2 m v7=some r
 have e1:=@iI.eq_2
 unfold BP at h
 exact sgo 38 [.tmp 6] Tryz.func373⟩
instance aAV:aW 258 (∀p0 r (h:bV p0=some r),Sc 258 [aS p0] [rB r]):=⟨λp0 r h=>by unfold bV at h;exact sgo 5 [.tmp 2] Tryz.func258⟩
theorem aI2(p0 c0 c1 r)(h:tV p0 c0 c1=some r):Sc 481 [aX (M.aJx.en p0),(false,[.ptr [.str c0]]),(false,[.ptr [.str c1]])] [rB r]:=by unfold tV at h;exact sgo 15 [.tmp 4] Tryz.func481
theorem aIp(I:List M.aJx)(J:M.aJx->Option Bool)(j:FuncId)(C:List D)(hp1:∀z0 r,J z0=some r->pH Tryz.prog j ((true,M.aJx.en z0)::  C.map λc=>(false,[c])) [(false,[.ro (.bool r)])])(r:Int)(h:kM I J=some r):Sc 480 [(false,[.sl (List.map M.aJx.en I)]),(false,[.fn j C])] [rI r]:=by
 have i1:=inv λm s=>∃U:Int,(s.t 0=vL M.aJx.en I/\s.t 1=.v false [.dat (.fn j C)]/\s.t 7=vI (List.length I:Int)/\s.t 8=vI U)/\dD I J m U=some r
 have e1:=@dD.eq_2
 unfold kM at h
 exact sgo 19 [.tmp 4] Tryz.func480
instance:aW 377 (∀p0 p1 p2 r (h:oT p0 p1 p2=some r),Sc 377 [aX (M.aJ0.en p0),aS p1,aS p2] [rI r]):=⟨λp0 p1 p2 r h=>by
 unfold oT at h
 simp only[EN]
 refine sgn 11 [.tmp 6] Tryz.func377 λbase wd => ?_
 refine sq (rn ?_)
 refine an (sq ?_)
 obtain⟨x1,h2,h⟩:=bind_some h
 refine rn1 (aIp p0.aJ1 (λz0=>tV z0 p1 p2) 481 [.ptr [.str p1],.ptr [.str p2]] (λz0 r hr=>aI2 z0 p1 p2 r hr) x1 h2) ?_
 refine an (rt ?_)
 cases h
 simp[Ret,TB,EN, *]⟩
instance:aW 469 (∀p0 r (h:sA p0=some r),Sc 469 [aX (M.aJo.en p0)] [rB r]):=⟨λp0 r h=>by unfold sA at h;exact sgo 22 [.tmp 2] Tryz.func469⟩
instance:aW 475 (∀p0 r (h:zR p0=some r),Sc 475 [aS p0] [rB r]):=⟨λp0 r h=>by
 have i1:=inv λm s=>∃v3:Int,(s.t 0=vS p0/\s.t 3=vI v3)/\eJ p0 m v3=some r
 have e1:=@eJ.eq_2
 unfold zR at h
 exact sgo 36 [.tmp 2] Tryz.func475⟩
instance:aW 374 (∀p0 r (h:gX p0=some r),Sc 374 [aX (M.Key.en p0)] [rB r]):=⟨λp0 r h=>by unfold gX at h;exact sgo 39 [.tmp 2] Tryz.func374⟩
instance:aW 476 (∀p0 p1 r (h:uW p0 p1=some r),Sc 476 [aI p0,aI p1] [rI r]):=⟨λp0 p1 r h=>by unfold uW at h;exact sgo 13 [.tmp 4] Tryz.func476⟩
set_option maxRecDepth 100000 in
theorem aHh (j:ByteArray) (C:ByteArray) (r:Int) (h:nO j C=some r):pH Tryz.prog 552 [(false,[.str j]),(false,[.str C])] [(false,[.ro (.int .i64 r)])]:=by
 refine SQ Tryz.func552 rfl jH λw => ?_
 cases h
 go_enter Tryz.func552,Tryz.ntmps552
 go_wp2
 rw [run_callFunc_extern Tryz.func587 (by kernel_rfl) (by kernel_rfl) (by kernel_rfl) (e:=Extern.BytealgCompare.compare) (by kernel_rfl),Lib.run_compareString]
 simp only [Result.andThen]
 rw [Oper.upon_value]
 go_wp2
 go_ret
 exact ⟨rfl,rfl⟩
instance:aW 552 (type_of%@aHh):=⟨@aHh⟩
instance:aW 477 (∀p0 p1 r (h:BR p0 p1=some r),Sc 477 [aS p0,aS p1] [rI r]):=⟨λp0 p1 r h=>by unfold BR at h;exact sgo 8 [.tmp 4] Tryz.func477⟩
instance:aW 375 (∀p0 p1 r (h:eF p0 p1=some r),Sc 375 [aX (M.Key.en p0),aX (M.Key.en p1)] [rI r]):=⟨λp0 p1 r h=>by unfold eF at h;exact sgo 36 [.tmp 4] Tryz.func375⟩
instance:aW 548 (∀p0 p1 r (h:mL p0 p1=some r),Sc 548 [aL M.aG.en p0,aX (M.aG.en p1)] [rI r]):=⟨λp0 p1 r h=>by
 have i1:=inv λm s=>∃v8:Int,(s.t 0=vL M.aG.en p0/\s.t 3=vP 3 1 0/\s.t 7=vI (List.length p0:Int)/\s.t 8=vI v8/\s.h 3=(1,oX 382 (M.aG.en p1)))/\dX p0 p1 m v8=some r
 have e1:=@dX.eq_2
 unfold mL at h
 exact sgo 19 [.tmp 4] Tryz.func548⟩
instance:aW 470 (∀p0 p1 r (h:iV p0 p1=some r),Sc 470 [aL M.aG.en p0,aX (M.aG.en p1)] [rB r]):=⟨λp0 p1 r h=>by unfold iV at h;exact sgo 9 [.tmp 4] Tryz.func470⟩
instance:aW 550 (∀p0 p1 r (h:yK p0 p1=some r),Sc 550 [aX (M.aJo.en p0),aB p1] [rI r]):=⟨λp0 p1 r h=>by unfold yK at h;exact sgo 10 [.tmp 4] Tryz.func550⟩
instance:aW 472 (∀p0 r (h:yB p0=some r),Sc 472 [aX (M.aO.en p0)] [rI r]):=⟨λp0 r h=>by
 have i1:=inv λm s=>∃v3:Int,∃v11:Int,(s.t 3=vI v3/\s.t 9=vL M.aJ0.en p0.aJs/\s.t 10=vI (List.length p0.aJs:Int)/\s.t 11=vI v11)/\eZ p0 m v3 v11=some r
 have e1:=@eZ.eq_2
 have i2:=λ(v11:Int) (x7:M.aJ0) (af:Int->Int->Option Int)=>inv λm s=>∃ae:Int,∃aa:Int,(s.t 3=vI ae/\s.t 9=vL M.aJ0.en p0.aJs/\s.t 10=vI (List.length p0.aJs:Int)/\s.t 11=vI v11/\s.t 16=vL M.aJx.en x7.aJ1/\s.t 17=vI (List.length x7.aJ1:Int)/\s.t 18=vI aa)/\iZ x7 af m ae aa=some r
 have e2:=@iZ.eq_2
 unfold yB at h
 exact sgo 34 [.tmp 2] Tryz.func472⟩
instance aBo:aW 400 (∀p0 r (h:iH p0=some r),Sc 400 [aX (M.Key.en p0)] [rW 5 1 enB r]):=⟨λp0 r h=>by
 have i1:=inv λm s=>∃v4:Int,∃aa:List Int,∃ae:Nat,(s.t 1=vP 1 1 0/\s.t 3=vR 100012 ae/\s.t 4=vI v4/\s.h 1=(1,oX 216 (M.Key.en p0))/\s.h 100012=(ae,oW 5 1 enB aa))/\cC p0 m v4 aa=some r
 have e1:=@cC.eq_2
 unfold iH at h
 exact sgo 34 [.tmp 2] Tryz.func400⟩
instance aA6:aW 399 (∀p0 p1 r (h:cF p0 p1=some r),Sc 399 [aL enB p0,aI p1] [rW 5 1 enB r]):=⟨λp0 p1 r h=>by
 have i1:=inv λm s=>∃v1:Int,∃r7:List Int,∃u7:Nat,(s.t 1=vI v1/\s.t 5=vR 100007 u7/\s.h 100007=(u7,oW 5 1 enB r7))/\cU m v1 r7=some r
 have e1:=@cU.eq_2
 unfold cF at h
 exact sgo 28 [.tmp 4] Tryz.func399⟩
instance aCU:aW 402 (∀p0 p1 r (h:gQ p0 p1=some r),Sc 402 [aL enB p0,aL enB p1] [rW 5 1 enB r]):=⟨λp0 p1 r h=>by unfold gQ at h;exact sgo 11 [.tmp 4] Tryz.func402⟩
instance:aW 257 (∀p0 r (h:wW p0=some r),Sc 257 [aS p0] [rB r]):=⟨λp0 r h=>by unfold wW at h;exact sgo 5 [.tmp 2] Tryz.func257⟩
instance:aW 153 (∀r (h:cP=some r),Sc 153 [] [(true,M.aJo.rs r)]):=⟨λr h=>by unfold cP at h;exact sgo 2 [.cell 0 107] Tryz.func153⟩
theorem aIj(p0 c0 r)(h:vH p0 c0=some r):Sc 479 [aX (M.aJ0.en p0),(false,[.ptr [.int .i64 c0]])] [rB r]:=by unfold vH at h;exact sgo 8 [.tmp 3] Tryz.func479
theorem aI3(I:List M.aJ0)(J:M.aJ0->Option Bool)(j:FuncId)(C:List D)(hp1:∀z0 r,J z0=some r->pH Tryz.prog j ((true,M.aJ0.en z0)::  C.map λc=>(false,[c])) [(false,[.ro (.bool r)])])(r:Int)(h:lR I J=some r):Sc 478 [(false,[.sl (List.map M.aJ0.en I)]),(false,[.fn j C])] [rI r]:=by
 have i1:=inv λm s=>∃U:Int,(s.t 0=vL M.aJ0.en I/\s.t 1=.v false [.dat (.fn j C)]/\s.t 7=vI (List.length I:Int)/\s.t 8=vI U)/\dN I J m U=some r
 have e1:=@dN.eq_2
 unfold lR at h
 exact sgo 19 [.tmp 4] Tryz.func478
instance:aW 376 (∀p0 p1 r (h:Ao p0 p1=some r),Sc 376 [aX (M.aO.en p0),aI p1] [rI r]):=⟨λp0 p1 r h=>by
 unfold Ao at h
 simp only[EN]
 refine sgn 9 [.tmp 4] Tryz.func376 λbase wd => ?_
 refine sq (rn ?_)
 refine an (sq ?_)
 obtain⟨x1,h2,h⟩:=bind_some h
 refine rn1 (aI3 p0.aJs (λz0=>vH z0 p1) 479 [.ptr [.int .i64 p1]] (λz0 r hr=>aIj z0 p1 r hr) x1 h2) ?_
 refine an (rt ?_)
 cases h
 simp[Ret,TB,EN, *]⟩
instance:aW 264 (∀p0 p1 p2 p3 r (h:yI p0 p1 p2 p3=some r),Sc 264 [aX (M.aO.en p0),aI p1,aS p2,aS p3] [(true,M.aJo.rs r.1),rB r.2]):=⟨λp0 p1 p2 p3 r h=>by unfold yI at h;exact sgo 40 [.cell 8 107,.tmp 9] Tryz.func264⟩
instance:aW 553 (∀p0 p1 r (h:Hj p0 p1=some r),Sc 553 [aI p0,aI p1] [rI r]):=⟨λp0 p1 r h=>by unfold Hj at h;exact sgo 18 [.tmp 4] Tryz.func553⟩
instance:aW 485 (∀p0 r (h:Ex p0=some r),Sc 485 [aL enI p0] [rI r]):=⟨λp0 r h=>by
 have i1:=inv λm s=>∃v3:Int,∃v8:Int,(s.t 3=vI v3/\s.t 6=vL enI p0/\s.t 7=vI (List.length p0:Int)/\s.t 8=vI v8)/\wE p0 m v3 v8=some r
 have e1:=@wE.eq_2
 unfold Ex at h
 exact sgo 21 [.tmp 2] Tryz.func485⟩
instance:aW 52 (∀p0 p1 p2 r (h:nD p0 p1 p2=some r),Sc 52 [aX (M.aJn.en p0),aI p1,aI p2] [(true,M.aJn.rs r.1),rB r.2]):=⟨λp0 p1 p2 r h=>by unfold nD at h;exact sgo 38 [.cell 6 89,.tmp 7] Tryz.func52⟩
instance aA8:aW 383 (∀p0 p1 r (h:fJ p0 p1=some r),Sc 383 [aL enB p0,aI p1] [rI r.1,rI r.2.1,rB r.2.2]):=⟨λp0 p1 r h=>by
 have i1:=inv λm s=>∃v7:Int,∃v8:Int,(s.t 0=vL enB p0/\s.t 1=vI p1/\s.t 7=vI v7/\s.t 8=vI v8)/\iA p0 p1 m v7 v8=some r
 have e1:=@iA.eq_2
 unfold fJ at h
 exact sgo 61 [.tmp 4,.tmp 5,.tmp 6] Tryz.func383⟩
instance aAF:aW 382 (∀p0 p1 p2 r (h:eB p0 p1 p2=some r),Sc 382 [aL enB p0,aI p1,aI p2] [rW 5 1 enB r.1,rI r.2.1,rB r.2.2]):=⟨λp0 p1 p2 r h=>by unfold eB at h;exact sgo 45 [.tmp 6,.tmp 7,.tmp 8] Tryz.func382⟩
