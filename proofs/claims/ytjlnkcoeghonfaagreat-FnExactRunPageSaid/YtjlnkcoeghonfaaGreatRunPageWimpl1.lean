/-
  Helper text. No conditions.
-/
import Derived.Test.YtjlnkcoeghonfaaGreatRunPageTi
set_option linter.all false
namespace Go.Proofs.YtjlnkcoeghonfaaGreat.gen
open Go Go.Sh
set_option maxRecDepth 20000
set_option maxHeartbeats 4000000
instance:aW 273 (∀p0 r (h:bQ p0=some r),Sc 273 [aX (M.aC.en p0)] [(true,M.aC.rs r)]):=⟨λp0 r h=>by unfold bQ at h;exact sgo 8 [.cell 2 207] Tryz.func273⟩
instance:aW 368 (∀p0 r (h:yF p0=some r),Sc 368 [aX (M.aJt.en p0)] [(true,M.aJt.rs r)]):=⟨λp0 r h=>by unfold yF at h;exact sgo 9 [.cell 2 320] Tryz.func368⟩
instance aCf:aW 254 (∀p0 r (h:aZ p0=some r),Sc 254 [aX (M.aD.en p0)] [(true,M.aD.rs r)]):=⟨λp0 r h=>by
 have i1:=Mt [.b 3 1 7050000 320 4] λm s=>∃af:Int,∃aa:List M.aJt,∃ae:Nat,(s.t 2=vP 2 1 0/\s.t 3=vP 3 1 0/\s.t 12=vL M.aJt.en p0.aJm/\s.t 13=vI (List.length p0.aJm:Int)/\s.t 14=vI af/\s.h 2=(1,oB 75 [cS (⟨#[]⟩:ByteArray),.nil,cI 0])/\s.h 3=(1,oB 75 [cS p0.Name,.row 7050000 ae,cI p0.aKG])/\s.h 7050000=(ae,oW 320 4 M.aJt.en aa))/\kV p0 m af aa=some r
 have e1:=@kV.eq_2
 unfold aZ at h
 exact sgo 27 [.cell 2 75] Tryz.func254⟩
instance:aW 136 (∀p0 r (h:vT p0=some r),Sc 136 [aX (M.aJu.en p0)] [(true,M.aJu.rs r)]):=⟨λp0 r h=>by unfold vT at h;exact sgo 8 [.cell 2 46] Tryz.func136⟩
theorem aIV(p0 c0 r)(h:vU p0 c0=some r):Sc 140 [aX (M.bD.en p0),(false,[.ptr [.int .i64 c0]])] [rB r]:=by unfold vU at h;exact sgo 8 [.tmp 3] Tryz.func140
theorem aJY(I:List M.bD)(J:M.bD->Option Bool)(j:FuncId)(C:List D)(hp1:∀z0 r,J z0=some r->pH Tryz.prog j ((true,M.bD.en z0)::  C.map λc=>(false,[c])) [(false,[.ro (.bool r)])])(r:Int)(h:mR I J=some r):Sc 139 [(false,[.sl (List.map M.bD.en I)]),(false,[.fn j C])] [rI r]:=by
 have i1:=inv λm s=>∃U:Int,(s.t 0=vL M.bD.en I/\s.t 1=.v false [.dat (.fn j C)]/\s.t 7=vI (List.length I:Int)/\s.t 8=vI U)/\dZ I J m U=some r
 have e1:=@dZ.eq_2
 unfold mR at h
 exact sgo 19 [.tmp 4] Tryz.func139
instance:aW 46 (∀p0 p1 r (h:Ap p0 p1=some r),Sc 46 [aX (M.World.en p0),aI p1] [rI r]):=⟨λp0 p1 r h=>by
 unfold Ap at h
 simp only[EN]
 refine sgn 9 [.tmp 4] Tryz.func46 λbase wd => ?_
 refine sq (rn ?_)
 refine an (sq ?_)
 obtain⟨x1,h2,h⟩:=bind_some h
 refine rn1 (aJY p0.aJ2 (λz0=>vU z0 p1) 140 [.ptr [.int .i64 p1]] (λz0 r hr=>aIV z0 p1 r hr) x1 h2) ?_
 refine an (rt ?_)
 cases h
 simp[Ret,TB,EN, *]⟩
theorem aJP(p0 c0 r)(h:uZ p0 c0=some r):Sc 390 [aX (M.aD.en p0),(false,[.ptr [.str c0]])] [rB r]:=by unfold uZ at h;exact sgo 8 [.tmp 3] Tryz.func390
theorem aIm(I:List M.aD)(J:M.aD->Option Bool)(j:FuncId)(C:List D)(hp1:∀z0 r,J z0=some r->pH Tryz.prog j ((true,M.aD.en z0)::  C.map λc=>(false,[c])) [(false,[.ro (.bool r)])])(r:Int)(h:lT I J=some r):Sc 389 [(false,[.sl (List.map M.aD.en I)]),(false,[.fn j C])] [rI r]:=by
 have i1:=inv λm s=>∃U:Int,(s.t 0=vL M.aD.en I/\s.t 1=.v false [.dat (.fn j C)]/\s.t 7=vI (List.length I:Int)/\s.t 8=vI U)/\dP I J m U=some r
 have e1:=@dP.eq_2
 unfold lT at h
 exact sgo 19 [.tmp 4] Tryz.func389
instance aBe:aW 270 (∀p0 p1 r (h:nH p0 p1=some r),Sc 270 [aX (M.aJj.en p0),aS p1] [rI r]):=⟨λp0 p1 r h=>by
 unfold nH at h
 simp only[EN]
 refine sgn 9 [.tmp 4] Tryz.func270 λbase wd => ?_
 refine sq (rn ?_)
 refine an (sq ?_)
 obtain⟨x1,h2,h⟩:=bind_some h
 refine rn1 (aIm p0.aJw (λz0=>uZ z0 p1) 390 [.ptr [.str p1]] (λz0 r hr=>aJP z0 p1 r hr) x1 h2) ?_
 refine an (rt ?_)
 cases h
 simp[Ret,TB,EN, *]⟩
theorem aIa(p0 c0 r)(h:tG p0 c0=some r):Sc 394 [aX (M.Field.en p0),(false,[.ptr [.str c0]])] [rB r]:=by unfold tG at h;exact sgo 8 [.tmp 3] Tryz.func394
theorem aJT(I:List M.Field)(J:M.Field->Option Bool)(j:FuncId)(C:List D)(hp1:∀z0 r,J z0=some r->pH Tryz.prog j ((true,M.Field.en z0)::  C.map λc=>(false,[c])) [(false,[.ro (.bool r)])])(r:Int)(h:lY I J=some r):Sc 393 [(false,[.sl (List.map M.Field.en I)]),(false,[.fn j C])] [rI r]:=by
 have i1:=inv λm s=>∃U:Int,(s.t 0=vL M.Field.en I/\s.t 1=.v false [.dat (.fn j C)]/\s.t 7=vI (List.length I:Int)/\s.t 8=vI U)/\dM I J m U=some r
 have e1:=@dM.eq_2
 unfold lY at h
 exact sgo 19 [.tmp 4] Tryz.func393
instance:aW 272 (∀p0 p1 r (h:AS p0 p1=some r),Sc 272 [aX (M.aC.en p0),aS p1] [rI r]):=⟨λp0 p1 r h=>by
 unfold AS at h
 simp only[EN]
 refine sgn 9 [.tmp 4] Tryz.func272 λbase wd => ?_
 refine sq (rn ?_)
 refine an (sq ?_)
 obtain⟨x1,h2,h⟩:=bind_some h
 refine rn1 (aJT p0.aJq (λz0=>tG z0 p1) 394 [.ptr [.str p1]] (λz0 r hr=>aIa z0 p1 r hr) x1 h2) ?_
 refine an (rt ?_)
 cases h
 simp[Ret,TB,EN, *]⟩
instance aA3:aW 158 (∀p0 p1 r (h:gB p0 p1=some r),Sc 158 [aX (M.aC.en p0),aS p1] [rI r.1,rB r.2]):=⟨λp0 p1 r h=>by unfold gB at h;exact sgo 18 [.tmp 4,.tmp 5] Tryz.func158⟩
instance:aW 256 (∀p0 p1 r (h:oO p0 p1=some r),Sc 256 [aX (M.aJi.en p0),aX (M.aJi.en p1)] [rB r]):=⟨λp0 p1 r h=>by unfold oO at h;exact sgo 24 [.tmp 4] Tryz.func256⟩
theorem aJc(p0 c0 c1 r)(h:sO p0 c0 c1=some r):Sc 260 [aX (M.aJi.en p0),(false,[.ptr [.str c0]]),(false,[.ptr [.str c1]])] [rB r]:=by unfold sO at h;exact sgo 15 [.tmp 4] Tryz.func260
theorem aJF(I:List M.aJi)(J:M.aJi->Option Bool)(j:FuncId)(C:List D)(hp1:∀z0 r,J z0=some r->pH Tryz.prog j ((true,M.aJi.en z0)::  C.map λc=>(false,[c])) [(false,[.ro (.bool r)])])(r:Int)(h:kH I J=some r):Sc 259 [(false,[.sl (List.map M.aJi.en I)]),(false,[.fn j C])] [rI r]:=by
 have i1:=inv λm s=>∃U:Int,(s.t 0=vL M.aJi.en I/\s.t 1=.v false [.dat (.fn j C)]/\s.t 7=vI (List.length I:Int)/\s.t 8=vI U)/\dC I J m U=some r
 have e1:=@dC.eq_2
 unfold kH at h
 exact sgo 19 [.tmp 4] Tryz.func259
instance:aW 145 (∀p0 p1 p2 r (h:lN p0 p1 p2=some r),Sc 145 [aX (M.aA.en p0),aS p1,aS p2] [rI r]):=⟨λp0 p1 p2 r h=>by
 unfold lN at h
 simp only[EN]
 refine sgn 11 [.tmp 6] Tryz.func145 λbase wd => ?_
 refine sq (rn ?_)
 refine an (sq ?_)
 obtain⟨x1,h2,h⟩:=bind_some h
 refine rn1 (aJF p0.aJp (λz0=>sO z0 p1 p2) 260 [.ptr [.str p1],.ptr [.str p2]] (λz0 r hr=>aJc z0 p1 p2 r hr) x1 h2) ?_
 refine an (rt ?_)
 cases h
 simp[Ret,TB,EN, *]⟩
instance:aW 261 (∀p0 p1 r (h:lV p0 p1=some r),Sc 261 [aL enS p0,aS p1] [rI r]):=⟨λp0 p1 r h=>by
 have i1:=inv λm s=>∃v8:Int,(s.t 0=vL enS p0/\s.t 1=vS p1/\s.t 7=vI (List.length p0:Int)/\s.t 8=vI v8)/\cH p0 p1 m v8=some r
 have e1:=@cH.eq_2
 unfold lV at h
 exact sgo 19 [.tmp 4] Tryz.func261⟩
instance:aW 147 (∀p0 r (h:nY p0=some r),Sc 147 [aS p0] [rI r]):=⟨λp0 r h=>by unfold nY at h;exact sgo 6 [.tmp 2] Tryz.func147⟩
instance:aW 151 (∀p0 r (h:yE p0=some r),Sc 151 [aI p0] [rI r]):=⟨λp0 r h=>by unfold yE at h;exact sgo 6 [.tmp 2] Tryz.func151⟩
instance:aW 152 (∀p0 p1 p2 r (h:kJ p0 p1 p2=some r),Sc 152 [aX (M.World.en p0),aS p1,aS p2] [(true,M.aJi.ra r.1),rB r.2]):=⟨λp0 p1 p2 r h=>by unfold kJ at h;exact sgo 23 [.cell 6 84,.tmp 7] Tryz.func152⟩
instance:aW 155 (∀p0 p1 r (h:FG p0 p1=some r),Sc 155 [aX (M.World.en p0),aS p1] [(true,M.aJr.ra r)]):=⟨λp0 p1 r h=>by unfold FG at h;exact sgo 23 [.cell 4 151] Tryz.func155⟩
instance:aW 482 (∀p0 p1 r (h:pP p0 p1=some r),Sc 482 [aL enS p0,aS p1] [rB r]):=⟨λp0 p1 r h=>by unfold pP at h;exact sgo 9 [.tmp 4] Tryz.func482⟩
instance:aW 380 (∀p0 p1 r (h:CA p0 p1=some r),Sc 380 [aX (M.aJr.en p0),aS p1] [rB r]):=⟨λp0 p1 r h=>by unfold CA at h;exact sgo 9 [.tmp 4] Tryz.func380⟩
instance:aW 486 (∀p0 r (h:pV p0=some r),Sc 486 [aL enB p0] [rW 3 1 enI r]):=⟨λp0 r h=>by
 have i1:=inv λm s=>∃v11:Int,∃r8:List Int,∃u8:Nat,(s.t 3=vR 100008 u8/\s.t 9=vL enB p0/\s.t 10=vI (List.length p0:Int)/\s.t 11=vI v11/\s.h 100008=(u8,oW 3 1 enI r8))/\hY p0 m v11 r8=some r
 have e1:=@hY.eq_2
 unfold pV at h
 exact sgo 22 [.tmp 2] Tryz.func486⟩
instance:aW 487 (∀p0 p1 r (h:sZ p0 p1=some r),Sc 487 [aL enB p0,aL enB p1] [rB r]):=⟨λp0 p1 r h=>by
 have i1:=inv λm s=>∃aa:Int,(s.t 0=vL enB p0/\s.t 1=vL enB p1/\s.t 12=vI (List.length p0:Int)/\s.t 13=vI aa)/\kF p0 p1 m aa=some r
 have e1:=@kF.eq_2
 unfold sZ at h
 exact sgo 26 [.tmp 4] Tryz.func487⟩
instance aCc:aW 387 (∀p0 p1 r (h:lJ p0 p1=some r),Sc 387 [aL enB p0,aL enB p1] [rB r]):=⟨λp0 p1 r h=>by unfold lJ at h;exact sgo 8 [.tmp 4] Tryz.func387⟩
theorem aJI(p0 c0 r)(h:yN p0 c0=some r):Sc 392 [aX (M.aJt.en p0),(false,[.ptr [.int .i64 c0.aJz,.int .i64 c0.N,.str c0.aKA]])] [rB r]:=by unfold yN at h;exact sgo 8 [.tmp 3] Tryz.func392
theorem aHW(I:List M.aJt)(J:M.aJt->Option Bool)(j:FuncId)(C:List D)(hp1:∀z0 r,J z0=some r->pH Tryz.prog j ((true,M.aJt.en z0)::  C.map λc=>(false,[c])) [(false,[.ro (.bool r)])])(r:Int)(h:iO I J=some r):Sc 391 [(false,[.sl (List.map M.aJt.en I)]),(false,[.fn j C])] [rI r]:=by
 have i1:=inv λm s=>∃U:Int,(s.t 0=vL M.aJt.en I/\s.t 1=.v false [.dat (.fn j C)]/\s.t 7=vI (List.length I:Int)/\s.t 8=vI U)/\dY I J m U=some r
 have e1:=@dY.eq_2
 unfold iO at h
 exact sgo 19 [.tmp 4] Tryz.func391
instance aCQ:aW 271 (∀p0 p1 r (h:kI p0 p1=some r),Sc 271 [aX (M.aD.en p0),aX (M.Key.en p1)] [rI r]):=⟨λp0 p1 r h=>by
 unfold kI at h
 simp only[EN]
 refine sgn 9 [.tmp 4] Tryz.func271 λbase wd => ?_
 refine sq (rn ?_)
 refine an (sq ?_)
 obtain⟨x1,h2,h⟩:=bind_some h
 refine rn1 (aHW p0.aJm (λz0=>yN z0 p1) 392 [.ptr [.int .i64 p1.aJz,.int .i64 p1.N,.str p1.aKA]] (λz0 r hr=>aJI z0 p1 r hr) x1 h2) ?_
 refine an (rt ?_)
 cases h
 simp[Ret,TB,EN, *]⟩
instance:aW 161 (∀p0 r (h:nI p0=some r),Sc 161 [aI p0] [(true,M.Key.rs r)]):=⟨λp0 r h=>by unfold nI at h;exact sgo 5 [.cell 2 216] Tryz.func161⟩
instance:aW 157 (∀p0 p1 r (h:Ca p0 p1=some r),Sc 157 [aX (M.aJj.en p0),aI p1] [(true,M.aC.ra r.1),rB r.2.1,rB r.2.2]):=⟨λp0 p1 r h=>by unfold Ca at h;exact sgo 35 [.cell 4 207,.tmp 5,.tmp 6] Tryz.func157⟩
