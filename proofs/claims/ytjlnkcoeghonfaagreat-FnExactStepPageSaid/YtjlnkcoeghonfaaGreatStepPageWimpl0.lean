/-
  Helper text. No conditions.
-/
import Derived.Test.YtjlnkcoeghonfaaGreatStepPageTi
set_option linter.all false
namespace Go.Proofs.YtjlnkcoeghonfaaGreat.gen
open Go Go.Sh
set_option maxRecDepth 20000
set_option maxHeartbeats 4000000
instance:aZ 397 (∀p0 r (h:dK p0=some r),Sc 397 [aL enB p0] [rW 5 1 enB r]):=⟨λp0 r h=>by unfold dK at h;exact sgo 6 [.tmp 2] Tryz.func397⟩
instance:aZ 378 (∀p0 r (h:kY p0=some r),Sc 378 [aX (M.aJg.en p0)] [(true,M.aJg.rs r)]):=⟨λp0 r h=>by unfold kY at h;exact sgo 8 [.cell 2 107] Tryz.func378⟩
instance:aZ 273 (∀p0 r (h:bQ p0=some r),Sc 273 [aX (M.aA.en p0)] [(true,M.aA.rs r)]):=⟨λp0 r h=>by unfold bQ at h;exact sgo 8 [.cell 2 207] Tryz.func273⟩
instance:aZ 368 (∀p0 r (h:yD p0=some r),Sc 368 [aX (M.aJl.en p0)] [(true,M.aJl.rs r)]):=⟨λp0 r h=>by unfold yD at h;exact sgo 9 [.cell 2 320] Tryz.func368⟩
instance:aZ 149 (∀p0 r (h:mO p0=some r),Sc 149 [aX (M.aJf.en p0)] [(true,M.aJf.rs r)]):=⟨λp0 r h=>by unfold mO at h;exact sgo 16 [.cell 2 89] Tryz.func149⟩
instance:aZ 48 (∀p0 r (h:iA p0=some r),Sc 48 [aX (M.bD.en p0)] [(true,M.bD.rs r)]):=⟨λp0 r h=>by unfold iA at h;exact sgo 13 [.cell 2 91] Tryz.func48⟩
instance:aZ 136 (∀p0 r (h:vN p0=some r),Sc 136 [aX (M.aJp.en p0)] [(true,M.aJp.rs r)]):=⟨λp0 r h=>by unfold vN at h;exact sgo 8 [.cell 2 46] Tryz.func136⟩
instance Qs:aZ 141 (∀p0 p1 p2 r (h:aV p0 p1 p2=some r),Sc 141 [aI p0,aI p1,aI p2] [rB r]):=⟨λp0 p1 p2 r h=>by unfold aV at h;exact sgo 15 [.tmp 6] Tryz.func141⟩
instance:aZ 373 (∀p0 p1 p2 r (h:BL p0 p1 p2=some r),Sc 373 [aS p0,aI p1,aB p2] [rB r]):=⟨λp0 p1 p2 r h=>by
 have i1:=inv λm s=>∃v7:Int,(s.t 0=vS p0/\s.t 1=vI p1/\s.t 2=vB p2/\s.t 7=vI v7)/\iG p0 p1 p2 m v7=some r
 have e1:=@iG.eq_2
 unfold BL at h
 exact sgo 38 [.tmp 6] Tryz.func373⟩
instance:aZ 469 (∀p0 r (h:rX p0=some r),Sc 469 [aX (M.aJg.en p0)] [rB r]):=⟨λp0 r h=>by unfold rX at h;exact sgo 22 [.tmp 2] Tryz.func469⟩
instance:aZ 475 (∀p0 r (h:zP p0=some r),Sc 475 [aS p0] [rB r]):=⟨λp0 r h=>by
 have i1:=inv λm s=>∃v3:Int,(s.t 0=vS p0/\s.t 3=vI v3)/\eJ p0 m v3=some r
 have e1:=@eJ.eq_2
 unfold zP at h
 exact sgo 36 [.tmp 2] Tryz.func475⟩
instance:aZ 374 (∀p0 r (h:gW p0=some r),Sc 374 [aX (M.Key.en p0)] [rB r]):=⟨λp0 r h=>by unfold gW at h;exact sgo 39 [.tmp 2] Tryz.func374⟩
instance:aZ 476 (∀p0 p1 r (h:uU p0 p1=some r),Sc 476 [aI p0,aI p1] [rI r]):=⟨λp0 p1 r h=>by unfold uU at h;exact sgo 13 [.tmp 4] Tryz.func476⟩
theorem aJH(p0 c0 r)(h:uX p0 c0=some r):Sc 390 [aX (M.aD.en p0),(false,[.ptr [.str c0]])] [rB r]:=by unfold uX at h;exact sgo 8 [.tmp 3] Tryz.func390
theorem aIe(I:List M.aD)(J:M.aD->Option Bool)(j:FuncId)(C:List D)(hp1:∀z0 r,J z0=some r->pC Tryz.prog j ((true,M.aD.en z0)::  C.map λc=>(false,[c])) [(false,[.ro (.bool r)])])(r:Int)(h:lR I J=some r):Sc 389 [(false,[.sl (List.map M.aD.en I)]),(false,[.fn j C])] [rI r]:=by
 have i1:=inv λm s=>∃U:Int,(s.t 0=vL M.aD.en I/\s.t 1=.v false [.dat (.fn j C)]/\s.t 7=vI (List.length I:Int)/\s.t 8=vI U)/\dO I J m U=some r
 have e1:=@dO.eq_2
 unfold lR at h
 exact sgo 19 [.tmp 4] Tryz.func389
instance aBW:aZ 270 (∀p0 p1 r (h:nF p0 p1=some r),Sc 270 [aX (M.aJb.en p0),aS p1] [rI r]):=⟨λp0 p1 r h=>by
 unfold nF at h
 simp only[EN]
 refine sgn 9 [.tmp 4] Tryz.func270 λbase wd => ?_
 refine sq (rn ?_)
 refine an (sq ?_)
 obtain⟨x1,h2,h⟩:=bind_some h
 refine rn1 (aIe p0.aJm (λz0=>uX z0 p1) 390 [.ptr [.str p1]] (λz0 r hr=>aJH z0 p1 r hr) x1 h2) ?_
 refine an (rt ?_)
 cases h
 simp[Ret,TB,EN, *]⟩
instance:aZ 548 (∀p0 p1 r (h:mJ p0 p1=some r),Sc 548 [aL M.aG.en p0,aX (M.aG.en p1)] [rI r]):=⟨λp0 p1 r h=>by
 have i1:=inv λm s=>∃v8:Int,(s.t 0=vL M.aG.en p0/\s.t 3=vP 3 1 0/\s.t 7=vI (List.length p0:Int)/\s.t 8=vI v8/\s.h 3=(1,oX 382 (M.aG.en p1)))/\dV p0 p1 m v8=some r
 have e1:=@dV.eq_2
 unfold mJ at h
 exact sgo 19 [.tmp 4] Tryz.func548⟩
instance:aZ 470 (∀p0 p1 r (h:iS p0 p1=some r),Sc 470 [aL M.aG.en p0,aX (M.aG.en p1)] [rB r]):=⟨λp0 p1 r h=>by unfold iS at h;exact sgo 9 [.tmp 4] Tryz.func470⟩
theorem aIS(p0 c0 r)(h:tE p0 c0=some r):Sc 394 [aX (M.Field.en p0),(false,[.ptr [.str c0]])] [rB r]:=by unfold tE at h;exact sgo 8 [.tmp 3] Tryz.func394
theorem aJL(I:List M.Field)(J:M.Field->Option Bool)(j:FuncId)(C:List D)(hp1:∀z0 r,J z0=some r->pC Tryz.prog j ((true,M.Field.en z0)::  C.map λc=>(false,[c])) [(false,[.ro (.bool r)])])(r:Int)(h:lW I J=some r):Sc 393 [(false,[.sl (List.map M.Field.en I)]),(false,[.fn j C])] [rI r]:=by
 have i1:=inv λm s=>∃U:Int,(s.t 0=vL M.Field.en I/\s.t 1=.v false [.dat (.fn j C)]/\s.t 7=vI (List.length I:Int)/\s.t 8=vI U)/\dL I J m U=some r
 have e1:=@dL.eq_2
 unfold lW at h
 exact sgo 19 [.tmp 4] Tryz.func393
instance:aZ 272 (∀p0 p1 r (h:AP p0 p1=some r),Sc 272 [aX (M.aA.en p0),aS p1] [rI r]):=⟨λp0 p1 r h=>by
 unfold AP at h
 simp only[EN]
 refine sgn 9 [.tmp 4] Tryz.func272 λbase wd => ?_
 refine sq (rn ?_)
 refine an (sq ?_)
 obtain⟨x1,h2,h⟩:=bind_some h
 refine rn1 (aJL p0.aJi (λz0=>tE z0 p1) 394 [.ptr [.str p1]] (λz0 r hr=>aIS z0 p1 r hr) x1 h2) ?_
 refine an (rt ?_)
 cases h
 simp[Ret,TB,EN, *]⟩
instance:aZ 550 (∀p0 p1 r (h:yI p0 p1=some r),Sc 550 [aX (M.aJg.en p0),aB p1] [rI r]):=⟨λp0 p1 r h=>by unfold yI at h;exact sgo 10 [.tmp 4] Tryz.func550⟩
instance:aZ 472 (∀p0 r (h:xZ p0=some r),Sc 472 [aX (M.aO.en p0)] [rI r]):=⟨λp0 r h=>by
 have i1:=inv λm s=>∃v3:Int,∃v11:Int,(s.t 3=vI v3/\s.t 9=vL M.aJs.en p0.aJk/\s.t 10=vI (List.length p0.aJk:Int)/\s.t 11=vI v11)/\eY p0 m v3 v11=some r
 have e1:=@eY.eq_2
 have i2:=λ(v11:Int) (x7:M.aJs) (af:Int->Int->Option Int)=>inv λm s=>∃ae:Int,∃aa:Int,(s.t 3=vI ae/\s.t 9=vL M.aJs.en p0.aJk/\s.t 10=vI (List.length p0.aJk:Int)/\s.t 11=vI v11/\s.t 16=vL M.aJo.en x7.aJt/\s.t 17=vI (List.length x7.aJt:Int)/\s.t 18=vI aa)/\iW x7 af m ae aa=some r
 have e2:=@iW.eq_2
 unfold xZ at h
 exact sgo 34 [.tmp 2] Tryz.func472⟩
instance aAz:aZ 399 (∀p0 p1 r (h:cF p0 p1=some r),Sc 399 [aL enB p0,aI p1] [rW 5 1 enB r]):=⟨λp0 p1 r h=>by
 have i1:=inv λm s=>∃v1:Int,∃r7:List Int,∃u7:Nat,(s.t 1=vI v1/\s.t 5=vR 100007 u7/\s.h 100007=(u7,oW 5 1 enB r7))/\cU m v1 r7=some r
 have e1:=@cU.eq_2
 unfold cF at h
 exact sgo 28 [.tmp 4] Tryz.func399⟩
instance:aZ 153 (∀r (h:cP=some r),Sc 153 [] [(true,M.aJg.rs r)]):=⟨λr h=>by unfold cP at h;exact sgo 2 [.cell 0 107] Tryz.func153⟩
instance:aZ 486 (∀p0 r (h:pQ p0=some r),Sc 486 [aL enB p0] [rW 3 1 enI r]):=⟨λp0 r h=>by
 have i1:=inv λm s=>∃v11:Int,∃r8:List Int,∃u8:Nat,(s.t 3=vR 100008 u8/\s.t 9=vL enB p0/\s.t 10=vI (List.length p0:Int)/\s.t 11=vI v11/\s.h 100008=(u8,oW 3 1 enI r8))/\hP p0 m v11 r8=some r
 have e1:=@hP.eq_2
 unfold pQ at h
 exact sgo 22 [.tmp 2] Tryz.func486⟩
instance:aZ 553 (∀p0 p1 r (h:Hc p0 p1=some r),Sc 553 [aI p0,aI p1] [rI r]):=⟨λp0 p1 r h=>by unfold Hc at h;exact sgo 18 [.tmp 4] Tryz.func553⟩
instance:aZ 52 (∀p0 p1 p2 r (h:nB p0 p1 p2=some r),Sc 52 [aX (M.aJf.en p0),aI p1,aI p2] [(true,M.aJf.rs r.1),rB r.2]):=⟨λp0 p1 p2 r h=>by unfold nB at h;exact sgo 38 [.cell 6 89,.tmp 7] Tryz.func52⟩
instance aA1:aZ 383 (∀p0 p1 r (h:fJ p0 p1=some r),Sc 383 [aL enB p0,aI p1] [rI r.1,rI r.2.1,rB r.2.2]):=⟨λp0 p1 r h=>by
 have i1:=inv λm s=>∃v7:Int,∃v8:Int,(s.t 0=vL enB p0/\s.t 1=vI p1/\s.t 7=vI v7/\s.t 8=vI v8)/\hY p0 p1 m v7 v8=some r
 have e1:=@hY.eq_2
 unfold fJ at h
 exact sgo 61 [.tmp 4,.tmp 5,.tmp 6] Tryz.func383⟩
instance Z7:aZ 382 (∀p0 p1 p2 r (h:eA p0 p1 p2=some r),Sc 382 [aL enB p0,aI p1,aI p2] [rW 5 1 enB r.1,rI r.2.1,rB r.2.2]):=⟨λp0 p1 p2 r h=>by unfold eA at h;exact sgo 45 [.tmp 6,.tmp 7,.tmp 8] Tryz.func382⟩
