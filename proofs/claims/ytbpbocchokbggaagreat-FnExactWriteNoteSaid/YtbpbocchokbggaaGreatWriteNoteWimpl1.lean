/-
  Helper text. No conditions.
-/
import Derived.Test.YtbpbocchokbggaaGreatWriteNoteTi
set_option linter.all false
namespace Go.Proofs.YtbpbocchokbggaaGreat.gen
open Go Go.Sh
set_option maxRecDepth 20000
set_option maxHeartbeats 4000000
instance:aZ 196 (∀p0 r (h:bJ p0=some r),Sc 196 [aX (M.aA.en p0)] [(true,M.aA.rs r)]):=⟨λp0 r h=>by unfold bJ at h;exact sgo 8 [.cell 2 129] Tryz.func196⟩
instance:aZ 445 (∀p0 r (h:tX p0=some r),Sc 445 [aX (M.aES.en p0)] [(true,M.aES.rs r)]):=⟨λp0 r h=>by unfold tX at h;exact sgo 9 [.cell 2 260] Tryz.func445⟩
instance Xd:aZ 326 (∀p0 r (h:aW p0=some r),Sc 326 [aX (M.aC.en p0)] [(true,M.aC.rs r)]):=⟨λp0 r h=>by
 have i1:=KP [.b 3 1 7050000 260 4] λm s=>∃af:Int,∃aa:List M.aES,∃ae:Nat,(s.t 2=vP 2 1 0/\s.t 3=vP 3 1 0/\s.t 12=vL M.aES.en p0.aEM/\s.t 13=vI (List.length p0.aEM:Int)/\s.t 14=vI af/\s.h 2=(1,oB 117 [cS (⟨#[]⟩:ByteArray),.nil,cI 0])/\s.h 3=(1,oB 117 [cS p0.Name,.row 7050000 ae,cI p0.aEo])/\s.h 7050000=(ae,oW 260 4 M.aES.en aa))/\iL p0 m af aa=some r
 have e1:=@iL.eq_2
 unfold aW at h
 exact sgo 27 [.cell 2 117] Tryz.func326⟩
instance UA:aZ 190 (∀p0 r (h:cX p0=some r),Sc 190 [aX (M.aEK.en p0)] [(true,M.aEK.rs r)]):=⟨λp0 r h=>by
 have i1:=KP [.b 3 2 7050000 117 3] λm s=>∃af:Int,∃aa:List M.aC,∃ae:Nat,(s.t 2=vP 2 1 0/\s.t 3=vP 3 1 0/\s.t 16=vL M.aC.en p0.aEU/\s.t 17=vI (List.length p0.aEU:Int)/\s.t 18=vI af/\s.h 2=(1,KH)/\s.h 3=(1,oB 112 [cS p0.Name,cI p0.aER,.row 7050000 ae,.row 100010 2])/\s.h 100010=(2,oW 471 2 M.aG.en p0.aEb)/\s.h 7050000=(ae,oW 117 3 M.aC.en aa))/\fH p0 m af aa=some r
 have e1:=@fH.eq_2
 unfold cX at h
 exact sgo 31 [.cell 2 112] Tryz.func190⟩
instance:aZ 534 (∀p0 r (h:tY p0=some r),Sc 534 [aX (M.aU.en p0)] [(true,M.aU.rs r)]):=⟨λp0 r h=>by unfold tY at h;exact sgo 9 [.cell 2 120] Tryz.func534⟩
instance:aZ 456 (∀p0 r (h:yP p0=some r),Sc 456 [aX (M.aEf.en p0)] [(true,M.aEf.rs r)]):=⟨λp0 r h=>by unfold yP at h;exact sgo 8 [.cell 2 122] Tryz.func456⟩
instance:aZ 352 (∀p0 r (h:rN p0=some r),Sc 352 [aX (M.aF.en p0)] [(true,M.aF.rs r)]):=⟨λp0 r h=>by unfold rN at h;exact sgo 12 [.cell 2 124] Tryz.func352⟩
instance:aZ 276 (∀p0 r (h:rH p0=some r),Sc 276 [aX (M.aEO.en p0)] [(true,M.aEO.rs r)]):=⟨λp0 r h=>by unfold rH at h;exact sgo 16 [.cell 2 65] Tryz.func276⟩
instance:aZ 131 (∀p0 r (h:yU p0=some r),Sc 131 [aX (M.bS.en p0)] [(true,M.bS.rs r)]):=⟨λp0 r h=>by unfold yU at h;exact sgo 13 [.cell 2 67] Tryz.func131⟩
instance:aZ 184 (∀p0 r (h:vD p0=some r),Sc 184 [aL M.bS.en p0] [rW 67 11 M.bS.en r]):=⟨λp0 r h=>by
 have i1:=inv λm s=>∃v9:Int,∃r6:List M.bS,∃u6:Nat,(s.t 3=vR 100006 u6/\s.t 7=vL M.bS.en p0/\s.t 8=vI (List.length p0:Int)/\s.t 9=vI v9/\s.h 100006=(u6,oW 67 11 M.bS.en r6))/\iT p0 m v9 r6=some r
 have e1:=@iT.eq_2
 unfold vD at h
 exact sgo 20 [.tmp 2] Tryz.func184⟩
instance:aZ 185 (∀p0 r (h:vG p0=some r),Sc 185 [aX (M.aR.en p0)] [(true,M.aR.rs r)]):=⟨λp0 r h=>by unfold vG at h;exact sgo 8 [.cell 2 51] Tryz.func185⟩
instance:aZ 186 (∀p0 r (h:rM p0=some r),Sc 186 [aX (M.aEY.en p0)] [(true,M.aEY.rs r)]):=⟨λp0 r h=>by unfold rM at h;exact sgo 8 [.cell 2 54] Tryz.func186⟩
instance:aZ 187 (∀p0 r (h:yK p0=some r),Sc 187 [aX (M.aET.en p0)] [(true,M.aET.rs r)]):=⟨λp0 r h=>by unfold yK at h;exact sgo 9 [.cell 2 92] Tryz.func187⟩
instance:aZ 188 (∀p0 r (h:tK p0=some r),Sc 188 [aX (M.aEX.en p0)] [(true,M.aEX.rs r)]):=⟨λp0 r h=>by unfold tK at h;exact sgo 15 [.cell 2 205] Tryz.func188⟩
theorem aDa(p0 c0 c1 r)(h:oG p0 c0 c1=some r):Sc 328 [aX (M.aEJ.en p0),(false,[.ptr [.str c0]]),(false,[.ptr [.str c1]])] [rB r]:=by unfold oG at h;exact sgo 15 [.tmp 4] Tryz.func328
theorem aDF(I:List M.aEJ)(J:M.aEJ->Option Bool)(j:FuncId)(C:List D)(hp1:∀z0 r,J z0=some r->nB Tryz.prog j ((true,M.aEJ.en z0)::  C.map λc=>(false,[c])) [(false,[.ro (.bool r)])])(r:Int)(h:iB I J=some r):Sc 327 [(false,[.sl (List.map M.aEJ.en I)]),(false,[.fn j C])] [rI r]:=by
 have i1:=inv λm s=>∃U:Int,(s.t 0=vL M.aEJ.en I/\s.t 1=.v false [.dat (.fn j C)]/\s.t 7=vI (List.length I:Int)/\s.t 8=vI U)/\cN I J m U=some r
 have e1:=@cN.eq_2
 unfold iB at h
 exact sgo 19 [.tmp 4] Tryz.func327
instance:aZ 189 (∀p0 p1 p2 r (h:nR p0 p1 p2=some r),Sc 189 [aX (M.aD.en p0),aS p1,aS p2] [rI r]):=⟨λp0 p1 p2 r h=>by
 unfold nR at h
 simp only[EN]
 refine sgn 11 [.tmp 6] Tryz.func189 λbase wd => ?_
 refine sq (rn ?_)
 refine an (sq ?_)
 obtain⟨x1,h2,h⟩:=bind_some h
 refine rn1 (aDF p0.aEP (λz0=>oG z0 p1 p2) 328 [.ptr [.str p1],.ptr [.str p2]] (λz0 r hr=>aDa z0 p1 p2 r hr) x1 h2) ?_
 refine an (rt ?_)
 cases h
 simp[Ret,TB,EN, *]⟩
instance:aZ 59 (∀p0 p1 p2 r (h:BH p0 p1 p2=some r),Sc 59 [aX (M.World.en p0),aS p1,aS p2] [(true,M.aEJ.ra r.1),rB r.2]):=⟨λp0 p1 p2 r h=>by unfold BH at h;exact sgo 23 [.cell 6 126,.tmp 7] Tryz.func59⟩
theorem aD6(p0 c0 r)(h:pZ p0 c0=some r):Sc 338 [aX (M.aC.en p0),(false,[.ptr [.str c0]])] [rB r]:=by unfold pZ at h;exact sgo 8 [.tmp 3] Tryz.func338
theorem aDu(I:List M.aC)(J:M.aC->Option Bool)(j:FuncId)(C:List D)(hp1:∀z0 r,J z0=some r->nB Tryz.prog j ((true,M.aC.en z0)::  C.map λc=>(false,[c])) [(false,[.ro (.bool r)])])(r:Int)(h:jV I J=some r):Sc 337 [(false,[.sl (List.map M.aC.en I)]),(false,[.fn j C])] [rI r]:=by
 have i1:=inv λm s=>∃U:Int,(s.t 0=vL M.aC.en I/\s.t 1=.v false [.dat (.fn j C)]/\s.t 7=vI (List.length I:Int)/\s.t 8=vI U)/\cY I J m U=some r
 have e1:=@cY.eq_2
 unfold jV at h
 exact sgo 19 [.tmp 4] Tryz.func337
instance Xm:aZ 194 (∀p0 p1 r (h:kY p0 p1=some r),Sc 194 [aX (M.aEK.en p0),aS p1] [rI r]):=⟨λp0 p1 r h=>by
 unfold kY at h
 simp only[EN]
 refine sgn 9 [.tmp 4] Tryz.func194 λbase wd => ?_
 refine sq (rn ?_)
 refine an (sq ?_)
 obtain⟨x1,h2,h⟩:=bind_some h
 refine rn1 (aDu p0.aEU (λz0=>pZ z0 p1) 338 [.ptr [.str p1]] (λz0 r hr=>aD6 z0 p1 r hr) x1 h2) ?_
 refine an (rt ?_)
 cases h
 simp[Ret,TB,EN, *]⟩
instance:aZ 526 (∀p0 p1 r (h:kI p0 p1=some r),Sc 526 [aL M.aG.en p0,aX (M.aG.en p1)] [rI r]):=⟨λp0 p1 r h=>by
 have i1:=inv λm s=>∃v8:Int,(s.t 0=vL M.aG.en p0/\s.t 3=vP 3 1 0/\s.t 7=vI (List.length p0:Int)/\s.t 8=vI v8/\s.h 3=(1,oX 471 (M.aG.en p1)))/\dB p0 p1 m v8=some r
 have e1:=@dB.eq_2
 unfold kI at h
 exact sgo 19 [.tmp 4] Tryz.func526⟩
instance:aZ 449 (∀p0 p1 r (h:gU p0 p1=some r),Sc 449 [aL M.aG.en p0,aX (M.aG.en p1)] [rB r]):=⟨λp0 p1 r h=>by unfold gU at h;exact sgo 9 [.tmp 4] Tryz.func449⟩
theorem aD1(p0 c0 r)(h:uG p0 c0=some r):Sc 340 [aX (M.aES.en p0),(false,[.ptr [.int .i64 c0.aEc,.int .i64 c0.N,.str c0.aEj]])] [rB r]:=by unfold uG at h;exact sgo 8 [.tmp 3] Tryz.func340
theorem aCO(I:List M.aES)(J:M.aES->Option Bool)(j:FuncId)(C:List D)(hp1:∀z0 r,J z0=some r->nB Tryz.prog j ((true,M.aES.en z0)::  C.map λc=>(false,[c])) [(false,[.ro (.bool r)])])(r:Int)(h:gP I J=some r):Sc 339 [(false,[.sl (List.map M.aES.en I)]),(false,[.fn j C])] [rI r]:=by
 have i1:=inv λm s=>∃U:Int,(s.t 0=vL M.aES.en I/\s.t 1=.v false [.dat (.fn j C)]/\s.t 7=vI (List.length I:Int)/\s.t 8=vI U)/\dC I J m U=some r
 have e1:=@dC.eq_2
 unfold gP at h
 exact sgo 19 [.tmp 4] Tryz.func339
instance X3:aZ 195 (∀p0 p1 r (h:kJ p0 p1=some r),Sc 195 [aX (M.aC.en p0),aX (M.Key.en p1)] [rI r]):=⟨λp0 p1 r h=>by
 unfold kJ at h
 simp only[EN]
 refine sgn 9 [.tmp 4] Tryz.func195 λbase wd => ?_
 refine sq (rn ?_)
 refine an (sq ?_)
 obtain⟨x1,h2,h⟩:=bind_some h
 refine rn1 (aCO p0.aEM (λz0=>uG z0 p1) 340 [.ptr [.int .i64 p1.aEc,.int .i64 p1.N,.str p1.aEj]] (λz0 r hr=>aD1 z0 p1 r hr) x1 h2) ?_
 refine an (rt ?_)
 cases h
 simp[Ret,TB,EN, *]⟩
instance:aZ 64 (∀p0 r (h:pH p0=some r),Sc 64 [aI p0] [(true,M.Key.rs r)]):=⟨λp0 r h=>by unfold pH at h;exact sgo 5 [.cell 2 136] Tryz.func64⟩
instance:aZ 61 (∀p0 p1 r (h:B1 p0 p1=some r),Sc 61 [aX (M.aEK.en p0),aI p1] [(true,M.aA.ra r.1),rB r.2.1,rB r.2.2]):=⟨λp0 p1 r h=>by unfold B1 at h;exact sgo 35 [.cell 4 129,.tmp 5,.tmp 6] Tryz.func61⟩
instance:aZ 560 (∀p0 p1 r (h:uD p0 p1=some r),Sc 560 [aX (M.aEQ.en p0),aB p1] [rI r]):=⟨λp0 p1 r h=>by unfold uD at h;exact sgo 10 [.tmp 4] Tryz.func560⟩
instance:aZ 478 (∀p0 r (h:tU p0=some r),Sc 478 [aX (M.aP.en p0)] [rI r]):=⟨λp0 r h=>by
 have i1:=inv λm s=>∃v3:Int,∃v11:Int,(s.t 3=vI v3/\s.t 9=vL M.aEZ.en p0.aEV/\s.t 10=vI (List.length p0.aEV:Int)/\s.t 11=vI v11)/\eA p0 m v3 v11=some r
 have e1:=@eA.eq_2
 have i2:=λ(v11:Int) (x7:M.aEZ) (af:Int->Int->Option Int)=>inv λm s=>∃ae:Int,∃aa:Int,(s.t 3=vI ae/\s.t 9=vL M.aEZ.en p0.aEV/\s.t 10=vI (List.length p0.aEV:Int)/\s.t 11=vI v11/\s.t 16=vL M.aEW.en x7.aEa/\s.t 17=vI (List.length x7.aEa:Int)/\s.t 18=vI aa)/\gY x7 af m ae aa=some r
 have e2:=@gY.eq_2
 unfold tU at h
 exact sgo 34 [.tmp 2] Tryz.func478⟩
instance:aZ 205 (∀p0 p1 r (h:lV p0 p1=some r),Sc 205 [aX (M.aEJ.en p0),aX (M.aEJ.en p1)] [rB r]):=⟨λp0 p1 r h=>by unfold lV at h;exact sgo 24 [.tmp 4] Tryz.func205⟩
