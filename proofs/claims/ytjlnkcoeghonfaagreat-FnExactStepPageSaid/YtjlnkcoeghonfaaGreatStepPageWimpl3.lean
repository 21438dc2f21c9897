/-
  Helper text. No conditions.
-/
import Derived.Test.YtjlnkcoeghonfaaGreatStepPageWimpl2
import Derived.Test.YtjlnkcoeghonfaaGreatStepPageWlib
set_option linter.all false
namespace Go.Proofs.YtjlnkcoeghonfaaGreat.gen
open Go Go.Sh
set_option maxRecDepth 20000
set_option maxHeartbeats 4000000
instance:aZ 276 (∀p0 r (h:xF p0=some r),Sc 276 [aX (M.bL.en p0)] [(true,M.bL.rs r)]):=⟨λp0 r h=>by unfold xF at h;exact sgo 12 [.cell 2 72] Tryz.func276⟩
instance:aZ 253 (∀p0 r (h:eB p0=some r),Sc 253 [aX (M.aJa.en p0)] [(true,M.aJa.rs r)]):=⟨λp0 r h=>by unfold eB at h;exact sgo 16 [.cell 2 84] Tryz.func253⟩
instance aCd:aZ 263 (∀p0 r (h:bT p0=some r),Sc 263 [aX (M.aD.en p0)] [rB r]):=⟨λp0 r h=>by
 have i1:=inv λm s=>∃v8:Int,(s.t 1=vP 1 1 0/\s.t 6=vL M.aJl.en p0.aJe/\s.t 7=vI (List.length p0.aJe:Int)/\s.t 8=vI v8/\s.h 1=(1,oX 75 (M.aD.en p0)))/\iP p0 m v8=some r
 have e1:=@iP.eq_2
 unfold bT at h
 exact sgo 55 [.tmp 2] Tryz.func263⟩
instance:aZ 549 (∀p0 p1 r (h:Ct p0 p1=some r),Sc 549 [aX (M.aD.en p0),aS p1] [rW 320 4 M.aJl.en r]):=⟨λp0 p1 r h=>by
 have i1:=inv λm s=>∃ah:Int,∃ae:List M.aJl,∃af:Nat,(s.t 1=vS p1/\s.t 5=vR 100011 af/\s.t 13=vL M.aJl.en p0.aJe/\s.t 14=vI (List.length p0.aJe:Int)/\s.t 15=vI ah/\s.h 100011=(af,oW 320 4 M.aJl.en ae))/\lK p0 p1 m ah ae=some r
 have e1:=@lK.eq_2
 have i2:=λ(ah:Int) (ae:List M.aJl) (ai:M.aJl) (aj:Int->Option (List M.aJl)) (s7:St) (af:Nat)=>inv λm s=>∃aa:Int,(s.t 1=vS p1/\s.t 5=vR 100011 af/\s.t 7=vP 7 ((s7.h 7).1+1) 0/\s.t 10=vI aa/\s.t 13=vL M.aJl.en p0.aJe/\s.t 14=vI (List.length p0.aJe:Int)/\s.t 15=vI ah/\s.h 7=((s7.h 7).1+1,oX 320 (M.aJl.en ai))/\s.h 100011=(af,oW 320 4 M.aJl.en ae))/\oF p1 ae ai aj m aa=some r
 have e2:=@oF.eq_2
 unfold Ct at h
 exact sgo 52 [.tmp 4] Tryz.func549⟩
instance:aZ 471 (∀p0 p1 r (h:kA p0 p1=some r),Sc 471 [aX (M.aD.en p0),aS p1] [(true,M.Key.rs r.1),(true,M.Key.rs r.2.1),rB r.2.2]):=⟨λp0 p1 r h=>by
 have i1:=λ(x1:(List M.aJl))=>inv λm s=>∃v8:Int,(s.t 1=vS p1/\s.t 4=vP 4 1 0/\s.t 5=vP 5 1 0/\s.t 7=vR 100015 1/\s.t 8=vI v8/\s.h 4=(1,oB 216 [cI 0,cI 0,cS (⟨#[]⟩:ByteArray)])/\s.h 5=(1,oB 216 [cI 0,cI 0,cS (⟨#[]⟩:ByteArray)])/\s.h 100015=(1,oW 320 4 M.aJl.en x1))/\fM p1 x1 m v8=some r
 have e1:=@fM.eq_2
 unfold kA at h
 exact sgo 59 [.cell 4 216,.cell 5 216,.tmp 6] Tryz.func471⟩
instance:aZ 407 (∀p0 r (h:sP p0=some r),Sc 407 [aX (M.aM.en p0)] [rB r]):=⟨λp0 r h=>by
 have i1:=inv λm s=>∃aa:Int,(s.t 1=vP 1 1 0/\s.t 3=vI (List.length p0.aJ1:Int)/\s.t 10=vL M.aW.en p0.aJ1/\s.t 11=vI (List.length p0.aJ1:Int)/\s.t 12=vI aa/\s.h 1=(1,oX 78 (M.aM.en p0)))/\mI p0 m aa=some r
 have e1:=@mI.eq_2
 unfold sP at h
 exact sgo 51 [.tmp 2] Tryz.func407⟩
instance:aZ 285 (∀p0 r (h:uL p0=some r),Sc 285 [aX (M.aE.en p0)] [rB r]):=⟨λp0 r h=>by unfold uL at h;exact sgo 23 [.tmp 2] Tryz.func285⟩
instance aBX:aZ 401 (∀p0 r (h:fT p0=some r),Sc 401 [aX (M.aA.en p0)] [rW 5 1 enB r]):=⟨λp0 r h=>by
 have i1:=Ni [.t 3 7050000 5 1] λm s=>∃af:Int,∃aa:List Int,∃ae:Nat,(s.t 3=vR 7050000 ae/\s.t 15=vL M.Field.en p0.aJi/\s.t 16=vI (List.length p0.aJi:Int)/\s.t 17=vI af/\s.h 7050000=(ae,oW 5 1 enB aa))/\cZ p0 m af aa=some r
 have e1:=@cZ.eq_2
 unfold fT at h
 exact sgo 31 [.tmp 2] Tryz.func401⟩
instance:aZ 474 (∀p0 r (h:tY p0=some r),Sc 474 [aX (M.aD.en p0)] [rI r]):=⟨λp0 r h=>by
 have i1:=inv λm s=>∃v3:Int,∃v9:Int,(s.t 3=vI v3/\s.t 7=vL M.aJl.en p0.aJe/\s.t 8=vI (List.length p0.aJe:Int)/\s.t 9=vI v9)/\kP p0 m v3 v9=some r
 have e1:=@kP.eq_2
 unfold tY at h
 exact sgo 26 [.tmp 2] Tryz.func474⟩
instance:aZ 148 (∀p0 r (h:Bo p0=some r),Sc 148 [aX (M.aJn.en p0)] [rB r]):=⟨λp0 r h=>by
 have i1:=inv λm s=>∃v10:Int,(s.t 1=vP 1 1 0/\s.t 8=vL M.aK.en p0.aK/\s.t 9=vI (List.length p0.aK:Int)/\s.t 10=vI v10/\s.h 1=(1,oX 156 (M.aJn.en p0)))/\gQ p0 m v10=some r
 have e1:=@gQ.eq_2
 have i2:=inv λm s=>∃aa:Int,(s.t 1=vP 1 1 0/\s.t 43=vL M.aW.en p0.aJ8/\s.t 44=vI (List.length p0.aJ8:Int)/\s.t 45=vI aa/\s.h 1=(1,oX 156 (M.aJn.en p0)))/\jZ p0 m aa=some r
 have e2:=@jZ.eq_2
 unfold Bo at h
 exact sgo 68 [.tmp 2] Tryz.func148⟩
instance:aZ 49 (∀p0 r (h:dZ p0=some r),Sc 49 [aX (M.aJf.en p0)] [(true,M.aJf.rs r.1),(true,M.Ask.rs r.2)]):=⟨λp0 r h=>by
 have i1:=λ(x1:M.aJf)=>inv λm s=>∃aa:Int,∃ae:Int,∃r7:List Int,(s.t 2=vP 2 1 0/\s.t 3=vP 3 1 0/\s.t 4=vP 4 1 0/\s.h 2=(1,aCa)/\s.h 3=(1,ZX)/\s.h 4=(1,oB 89 [.row 100007 1,cI aa,.row 300007 1,cI ae,cB x1.aKT,cB x1.aKQ])/\s.h 100007=(1,oW 197 4 M.Instr.en x1.aJ5)/\s.h 300007=(1,oW 3 1 enI r7))/\dA x1 m aa ae r7=some r
 have e1:=@dA.eq_2
 unfold dZ at h
 exact sgo 177 [.cell 2 89,.cell 3 102] Tryz.func49⟩
instance:aZ 379 (∀p0 p1 r (h:rG p0 p1=some r),Sc 379 [aX (M.aJj.en p0),aI p1] [rB r]):=⟨λp0 p1 r h=>by unfold rG at h;exact sgo 24 [.tmp 4] Tryz.func379⟩
instance:aZ 484 (∀p0 p1 r (h:iQ p0 p1=some r),Sc 484 [aI p0,aS p1] [rI r]):=⟨λp0 p1 r h=>by unfold iQ at h;exact sgo 14 [.tmp 4] Tryz.func484⟩
instance:aZ 381 (∀p0 p1 p2 r (h:D1 p0 p1 p2=some r),Sc 381 [aX (M.aJj.en p0),aS p1,aI p2] [rW 5 1 enB r]):=⟨λp0 p1 p2 r h=>by
 have i1:=λ(x5:Int)=>inv λm s=>∃v9:Int,∃aa:List Int,∃ae:Nat,(s.t 7=vI x5/\s.t 8=vR 100019 ae/\s.t 9=vI v9/\s.h 100019=(ae,oW 5 1 enB aa))/\fC x5 m v9 aa=some r
 have e1:=@fC.eq_2
 unfold D1 at h
 exact sgo 33 [.tmp 6] Tryz.func381⟩
instance:aZ 51 (∀p0 p1 p2 r (h:Bv p0 p1 p2=some r),Sc 51 [aX (M.bD.en p0),aS p1,aX (M.aJg.en p2)] [(true,M.bD.rs r.1),rB r.2]):=⟨λp0 p1 p2 r h=>by unfold Bv at h;exact sgo 43 [.cell 6 91,.tmp 7] Tryz.func51⟩
theorem aJO(p0 r)(h:CB p0=some r):Sc 267 [aL enB p0] [rW 58 1 (enL enB) r.1,rI r.2]:=by
 have i1:=inv λm s=>∃I:Int,∃j:List (List Int),∃C:Nat,(s.t 0=vL enB p0/\s.t 4=vR 100012 C/\s.t 5=vI I/\s.h 100012=(C,oW 58 1 (enL enB) j))/\sA p0 m I j=some r
 have e1:=@sA.eq_2
 unfold CB at h
 exact sgo 48 [.tmp 2,.tmp 3] Tryz.func267
theorem aIf(p0 r)(h:nZ p0=some r):Sc 386 [aL enB p0] [(true,M.aA.rs r.1),rB r.2]:=by
 have i1:=λ(x1:(Int×Int×Bool))=>Ni [.b 7 0 7050000 322 2] λm s=>∃I:Int,∃J:Int,∃j:List M.Field,∃C:Nat,(s.t 0=vL enB p0/\s.t 2=vP 2 1 0/\s.t 4=vI x1.1/\s.t 5=vI I/\s.t 7=vP 7 1 0/\s.t 8=vI J/\s.h 2=(1,oB 207 [.nil])/\s.h 7=(1,oB 207 [.row 7050000 C])/\s.h 7050000=(C,oW 322 2 M.Field.en j))/\gJ p0 x1 m I J j=some r
 have e1:=@gJ.eq_2
 unfold nZ at h
 exact sgo 72 [.cell 2 207,.tmp 3] Tryz.func386
instance aA0:aZ 488 (∀p0 r (h:Ei p0=some r),Sc 488 [aX (M.Op.en p0)] [rB r]):=⟨λp0 r h=>by unfold Ei at h;exact sgo 39 [.tmp 2] Tryz.func488⟩
theorem aIR(p0 r)(h:DD p0=some r):Sc 398 [aL M.Op.en p0] [rB r]:=by
 have i1:=inv λm s=>∃j:Int,(s.t 0=vL M.Op.en p0/\s.t 5=vL M.Op.en p0/\s.t 6=vI (List.length p0:Int)/\s.t 7=vI j)/\uE p0 m j=some r
 have e1:=@uE.eq_2
 unfold DD at h
 exact sgo 18 [.tmp 2] Tryz.func398
instance aAY:aZ 408 (∀p0 p1 p2 r (h:iH p0 p1 p2=some r),Sc 408 [aX (M.aD.en p0),aX (M.Key.en p1),aX (M.aA.en p2)] [(true,M.aD.rs r.1),rB r.2]):=⟨λp0 p1 p2 r h=>by
 have i1:=λ(aa:M.aD)=>inv λm s=>∃v10:Int,(s.t 3=vP 3 1 0/\s.t 4=vP 4 1 0/\s.t 5=vP 5 1 0/\s.t 6=vP 6 1 0/\s.t 8=vP 8 1 0/\s.t 10=vI v10/\s.h 3=(1,oX 75 (M.aD.en p0))/\s.h 4=(1,oX 216 (M.Key.en p1))/\s.h 5=(1,oX 207 (M.aA.en p2))/\s.h 6=(1,oB 75 [cS (⟨#[]⟩:ByteArray),.nil,cI 0])/\s.h 8=(1,oB 75 [cS aa.Name,.row 200022 1,cI aa.aJ7])/\s.h 200022=(1,oW 320 4 M.aJl.en aa.aJe))/\nY p0 p1 p2 aa m v10=some r
 have e1:=@nY.eq_2
 unfold iH at h
 exact sgo 87 [.cell 6 75,.tmp 7] Tryz.func408⟩
theorem aDt(p0 c0 r)(h:iV p0 c0=some r):Sc 589 [aX (M.aJl.en p0),(false,[.ptr [.bool c0.aKY,.bool c0.aKN,.int .i64 c0.Low.aJr,.int .i64 c0.Low.N,.str c0.Low.aJ2,.int .i64 c0.aKR.aJr,.int .i64 c0.aKR.N,.str c0.aKR.aJ2]])] [rB r]:=by unfold iV at h;exact sgo 8 [.tmp 3] Tryz.func589
theorem aEG(p0 p1 r)(h:pH p0 p1=some r):Sc 555 [aX (M.aD.en p0),aX (M.dE.en p1)] [(true,M.aD.ra r.1),rI r.2]:=by
 unfold pH at h
 simp only[EN]
 refine sgn 26 [.cell 4 75,.tmp 5] Tryz.func555 λbase wd => ?_
 refine sq ?_
 apply iR
 ·simp +decide only[LN,LI,E,reduceIte,Nat.reduceAdd,Nat.reduceMul,qB,qC,L,Sy,EN];exact Is.mk _
 refine an (sq ?_)
 obtain⟨x1,h2,h⟩:=bind_some h
 apply iR
 ·simp +decide only[LN,LI,E,reduceIte,Nat.reduceAdd,Nat.reduceMul,qB,qC,L,Sy,EN]
  refine⟨_,aCX.1 _ _ h2,?_⟩
  try simp +decide only[LN,LI,E,reduceIte,Nat.reduceAdd,Nat.reduceMul,qB,qC,L,Sy,EN]
  exact Is.mk _
 refine an (sq (sq ?_))
 obtain⟨x3,h4,h⟩:=bind_some h
 apply iR
 ·simp +decide only[LN,LI,E,reduceIte,Nat.reduceAdd,Nat.reduceMul,qB,qC,L,Sy,EN]
  refine⟨_,aCd.1 _ _ h4,?_⟩
  try simp +decide only[LN,LI,E,reduceIte,Nat.reduceAdd,Nat.reduceMul,qB,qC,L,Sy,EN]
  exact Is.mk _
 refine an ?_
 rcases cK (!x3)with b5 | b5
 ·replace h:=bJ b5 h;refine Ft (by simp +decide only[LN,LI,F,reduceIte,Nat.reduceAdd,qB,qC,EN,b5]) ?_;refine sq ?_;apply iR;(simp +decide only[LN,LI,E,reduceIte,Nat.reduceAdd,Nat.reduceMul,qB,qC,L,Sy,EN,b5];exact Is.mk _);refine an (frb 4 1 200008 ?_);refine rt ?_;cases h;simp[Ret,LN,LI,EN,Sy,M.aJl.en,b5]
 replace h:=bI b5 h
 refine F6 (by simp +decide only[LN,LI,F,reduceIte,Nat.reduceAdd,qB,qC,EN,b5]) ?_
 refine sk (an (sq ?_))
 apply UX (n:=3) (f:=588) (d:=16) (N':=42) (vars:=[.tmp 4]) rfl rfl rfl rfl jG Tryz.func588 rfl rfl rfl jH jG
 ·simp +decide only[LN,LI,E,reduceIte,Nat.reduceAdd,Nat.reduceMul,qB,qC,L,SZ,Sy,EN,b5];exact Is.mk _
 intro fv
 refine Ir (Gho.shallow (i:=200008) (ver:=1) (e:=320) (sz:=4) (xs:=List.map M.aJl.en x1.aJe) (by first | (simp +decide only[LN,LI,F,reduceIte,Nat.reduceAdd,qB,qC,EN,M.aJl.en,b5];done)| (simp +decide only[LN,LI,F,reduceIte,Nat.reduceAdd,qB,qC,EN,M.aJl.en,b5];rfl)| rfl)) ?_
 refine Eh (J:=λs=>s.t 0=vR 200008 1/\s.t 1 = .v false [.clo 589 [(3,1,0)]]/\s.fr 2=vP 2 1 0/\s.fr 4=vP 4 1 0/\s.fr 6=vP 6 1 0/\s.h 2=(1,oX 75 (M.aD.en p0))/\s.h 3=(1,oX 550 (M.dE.en p1))/\s.h 4=(1,oB 75 [cS (⟨#[]⟩:ByteArray),.nil,cI 0])/\s.h 6=(1,oB 75 [cS x1.Name,.row 200008 1,cI x1.aJ7])/\s.h 200008=(1,.row 320 4 (List.map M.aJl.en x1.aJe) false)/\True) ?_ ?_
 ·and_intros<;>(try first | (simp +decide only[LN,LI,F,reduceIte,Nat.reduceAdd,qB,qC,EN,M.aJl.en,b5];done)| (simp +decide only[LN,LI,F,reduceIte,Nat.reduceAdd,qB,qC,EN,M.aJl.en,b5];rfl)| rfl)
 rintro s6 f7
 refine sq ?_
 apply iR
 ·simp +decide only[LN,LI,E,reduceIte,Nat.reduceAdd,Nat.reduceMul,qB,qC,L,EN, *,-h];exact Is.mk _
 refine an (sq ?_)
 obtain⟨af,ak,h⟩:=bind_some h
 apply iR
 ·simp +decide only[LN,LI,E,reduceIte,Nat.reduceAdd,Nat.reduceMul,qB,qC,L,EN, *,-h]
  refine⟨_,aHO x1.aJe (λz0=>iV z0 p1) 589 [.ptr [.bool p1.aKY,.bool p1.aKN,.int .i64 p1.Low.aJr,.int .i64 p1.Low.N,.str p1.Low.aJ2,.int .i64 p1.aKR.aJr,.int .i64 p1.aKR.N,.str p1.aKR.aJ2]] (λz0 r hr=>aDt z0 p1 r hr) af ak,?_⟩
  try simp +decide only[LN,LI,E,reduceIte,Nat.reduceAdd,Nat.reduceMul,qB,qC,L,EN, *,-h]
  exact Is.mk _
 refine an (sq (sq ?_))
 apply iR
 ·simp +decide only[LN,LI,E,reduceIte,Nat.reduceAdd,Nat.reduceMul,qB,qC,L,EN, *,-h];exact Is.mk _
 refine an ?_
 rcases cK (af==(-1))with ae | ae
 ·replace h:=bJ ae h;refine Ft (by simp +decide only[LN,LI,F,reduceIte,Nat.reduceAdd,qB,qC,EN, *,-h]) ?_;refine sq ?_;apply iR;(simp +decide only[LN,LI,E,reduceIte,Nat.reduceAdd,Nat.reduceMul,qB,qC,L,EN, *,-h];exact Is.mk _);refine an (rt ?_);apply aAB.mk (l:=[(false,[.row 200008 1])]) (by simp[LN,LI,EN,b5,f7,ae]);(simp +decide only[VL,LN,LI,E,reduceIte,Nat.reduceAdd,Nat.reduceMul,qB,qC,L,SZ,Sy,EN, *,-h];exact Is.mk _);refine an (sq ?_);apply K0 mixed;(simp +decide only[LN,LI,E,reduceIte,Nat.reduceAdd,Nat.reduceMul,qB,qC,L,SZ,Sy,EN, *,-h];exact⟨.mk jH,Is.mk _⟩);refine an (frb 4 1 200008 ?_);refine rt ?_;cases h;simp[Ret,LN,LI,EN,Sy,M.aJl.en, *]
 replace h:=bI ae h
 refine F6 (by simp +decide only[LN,LI,F,reduceIte,Nat.reduceAdd,qB,qC,EN, *,-h]) ?_
 refine sk (an (sq (sq ?_)))
 apply iR
 ·simp +decide only[LN,LI,E,reduceIte,Nat.reduceAdd,Nat.reduceMul,qB,qC,L,EN, *,-h];exact Is.mk _
 refine an (bk ?_)
 refine GD (λm s=>∃C:Int,∃v6:Int,∃U:List M.aJl,s.t 0=vR 200008 1/\s.t 1 = .v false [.clo 589 [(3,1,0)]]/\s.t 5=vI C/\s.t 6=vI v6/\s.fr 2=vP 2 1 0/\s.fr 4=vP 4 1 0/\s.fr 6=vP 6 1 0/\s.h 2=(1,oX 75 (M.aD.en p0))/\s.h 3=(1,oX 550 (M.dE.en p1))/\s.h 4=(1,oB 75 [cS (⟨#[]⟩:ByteArray),.nil,cI 0])/\s.h 6=(1,oB 75 [cS x1.Name,.row 200008 1,cI x1.aJ7])/\s.h 200008=(1,.row 320 4 (List.map M.aJl.en U) false)/\eI p0 p1 x1 m C v6 U=some r) fuel ?_ ?_
 ·refine⟨af,IntKind.i64.wrap (af+1),x1.aJe,?_,?_,?_,?_,?_,?_,?_,?_,?_,?_,?_,?_,h⟩;all_goals simp +decide only[LN,LI,F,reduceIte,Nat.reduceAdd,qB,qC,EN,M.aJl.en, *,-h]
 rintro mL1 av ⟨C,v6,U,f21,f22,f23,f24,f25,f26,f27,f28,f29,f30,f31,f32,h⟩
 rcases mL1 with _ | mL1
 ·exact absurd h (by simp[eI])
 simp only[eI]at h
 refine sq (sq ?_)
 apply iR
 ·simp +decide only[LN,LI,E,reduceIte,Nat.reduceAdd,Nat.reduceMul,qB,qC,L,SZ,EN, *,-h];exact Is.mk _
 refine an ?_
 rcases cK (decide (v6<(List.length U:Int)))with ah | ah
 ·replace h:=bJ ah h
  refine Ft (by simp +decide only[LN,LI,F,reduceIte,Nat.reduceAdd,qB,qC,EN, *,-h]) ?_
  refine sk (an (sq (bk (sq ?_))))
  obtain⟨aj,al,h⟩:=bind_some h
  obtain⟨aw,ax,ay⟩:=aU al
  apply iR
  ·simp +decide only[LN,LI,E,reduceIte,Nat.reduceAdd,Nat.reduceMul,qB,qC,L,SZ,Oq,M.aJl.en,EN, *,-h];exact Is.mk _
  refine an (sq ?_)
  obtain⟨ao,aq,h⟩:=bind_some h
  apply iR
  ·simp +decide only[LN,LI,E,reduceIte,Nat.reduceAdd,Nat.reduceMul,qB,qC,L,Oq,EN, *,-h]
   refine⟨_,aDt _ _ _ aq,?_⟩
   try simp +decide only[LN,LI,E,reduceIte,Nat.reduceAdd,Nat.reduceMul,qB,qC,L,Oq,EN, *,-h]
   exact Is.mk _
  refine an ?_
  rcases GB (!ao)with ai | ai
  ·replace h:=bI ai h;refine F6 (by simp +decide only[LN,LI,F,reduceIte,Nat.reduceAdd,qB,qC,EN, *,-h]) ?_;refine sk (ab (an ?_));apply iR;(simp +decide only[LN,LI,E,reduceIte,Nat.reduceAdd,Nat.reduceMul,qB,qC,L,EN, *,-h];exact Is.mk _);refine jU ⟨mL1,jD,C,IntKind.i64.wrap (v6+1),U,?_,?_,?_,?_,?_,?_,?_,?_,?_,?_,?_,?_,h⟩;all_goals simp +decide only[LN,LI,F,reduceIte,Nat.reduceAdd,qB,qC,EN,M.aJl.en, *,-h]
  replace h:=bJ ai h
  refine Ft (by simp +decide only[LN,LI,F,reduceIte,Nat.reduceAdd,qB,qC,EN, *,-h]) ?_
  refine sq ?_
  obtain⟨az,ar,h⟩:=bind_some h
  obtain⟨ba,bd,bf⟩:=aU ar
  apply iR
  ·simp +decide only[LN,LI,E,reduceIte,Nat.reduceAdd,Nat.reduceMul,qB,qC,L,SZ,Oq,M.aJl.en,EN, *,-h];exact Is.mk _
  refine an ?_
  refine Eh (J:=λs=>s.t 0=vR 200008 1/\s.t 1 = .v false [.clo 589 [(3,1,0)]]/\s.t 5=vI C/\s.t 6=vI v6/\s.fr 2=vP 2 1 0/\s.fr 4=vP 4 1 0/\s.fr 6=vP 6 1 0/\s.h 2=(1,oX 75 (M.aD.en p0))/\s.h 3=(1,oX 550 (M.dE.en p1))/\s.h 4=(1,oB 75 [cS (⟨#[]⟩:ByteArray),.nil,cI 0])/\s.h 6=(1,oB 75 [cS x1.Name,.row 200008 1,cI x1.aJ7])/\s.h 200008=(1,.row 320 4 (List.map M.aJl.en (List.set U C.toNat aj)) false)/\True) ?_ ?_
  ·and_intros<;>(try simp +decide only[LN,LI,F,reduceIte,Nat.reduceAdd,qB,qC,EN,M.aJl.en, *,-h])
  rintro bg f48
  apply iR
  ·simp +decide only[LN,LI,E,reduceIte,Nat.reduceAdd,Nat.reduceMul,qB,qC,L,EN, *,-h];exact Is.mk _
  refine ab (an ?_)
  apply iR
  ·simp +decide only[LN,LI,E,reduceIte,Nat.reduceAdd,Nat.reduceMul,qB,qC,L,EN, *,-h];exact Is.mk _
  refine jU ⟨mL1,jD,IntKind.i64.wrap (C+1),IntKind.i64.wrap (v6+1),List.set U C.toNat aj,?_,?_,?_,?_,?_,?_,?_,?_,?_,?_,?_,?_,h⟩
  all_goals simp +decide only[LN,LI,F,reduceIte,Nat.reduceAdd,qB,qC,EN,M.aJl.en, *,-h]
 replace h:=bI ah h
 refine F6 (by simp +decide only[LN,LI,F,reduceIte,Nat.reduceAdd,qB,qC,EN, *,-h]) ?_
 refine xt (EW (EP (It (an (sq ?_)))))
 obtain⟨bh,I,h⟩:=bind_some h
 apply iR
 ·simp +decide only[LN,LI,E,reduceIte,Nat.reduceAdd,Nat.reduceMul,qB,qC,<-List.map_take,<-List.map_drop,L,SZ,Oq,M.aJl.en,EN, *,-h]
  refine⟨by first | exact N6 I | exact(N6 I).2 | exact(N6 I).2.2,?_⟩
  try simp +decide only[LN,LI,E,reduceIte,Nat.reduceAdd,Nat.reduceMul,qB,qC,<-List.map_take,<-List.map_drop,L,SZ,Oq,M.aJl.en,EN, *,-h]
  refine⟨by first | exact PH I | exact(PH I).2 | exact(PH I).2.2 | (have hb:=PH I;simpa using hb),?_⟩
  try simp +decide only[LN,LI,E,reduceIte,Nat.reduceAdd,Nat.reduceMul,qB,qC,<-List.map_take,<-List.map_drop,L,SZ,Oq,M.aJl.en,EN, *,-h]
  exact Is.mk _
 refine an (sq ?_)
 apply iR
 ·simp +decide only[LN,LI,E,reduceIte,Nat.reduceAdd,Nat.reduceMul,qB,qC,<-List.map_take,<-List.map_drop,L,SZ,Oq,M.aJl.en,EN, *,-h]
  refine⟨by first | exact Rw (f:=M.aJl.en) I | exact(Rw (f:=M.aJl.en) I).2 | exact(Rw (f:=M.aJl.en) I).2.2 | (have hb:=Rw (f:=M.aJl.en) I;simpa using hb),?_⟩
  try simp +decide only[LN,LI,E,reduceIte,Nat.reduceAdd,Nat.reduceMul,qB,qC,<-List.map_take,<-List.map_drop,L,SZ,Oq,M.aJl.en,EN, *,-h]
  exact Is.mk _
 refine an (rt ?_)
 apply aAB.mk (l:=[(false,[.part 200008 1 0 C.toNat])]) (by simp[LN,LI,EN,b5,ae,f21,f22,f23,f24,f25,f26,f27,f28,f29,f30,f31,f32,ah])
 ·simp +decide only[VL,LN,LI,E,reduceIte,Nat.reduceAdd,Nat.reduceMul,qB,qC,L,SZ,Sy,EN, *,-h];exact Is.mk _
 refine an (sq ?_)
 refine Ir (Gho.ZY (b:=6) (vb:=1) (t:=75) (cells:=[.dat (.str x1.Name),.part 200008 1 0 C.toNat,.dat (.int .i64 x1.aJ7)]) (c:=1) (j:=200008) (vj:=1) (K:=200008) (n:=C.toNat) (e:=320) (sz:=4) (dp:=false) (xs:=List.map M.aJl.en (List.take C.toNat U)++List.replicate (List.length U-C.toNat) [.opq,.opq,.opq,.opq]) (List.map M.aJl.en (List.take C.toNat U)) (by first | (simp +decide only[LN,LI,F,reduceIte,Nat.reduceAdd,qB,qC,EN, *,-h];done)| (simp +decide only[LN,LI,F,reduceIte,Nat.reduceAdd,qB,qC,EN, *,-h];rfl)| rfl) rfl (by first | (simp +decide only[LN,LI,F,reduceIte,Nat.reduceAdd,qB,qC,EN, *,-h];done)| (simp +decide only[LN,LI,F,reduceIte,Nat.reduceAdd,qB,qC,EN, *,-h];rfl)| rfl) jG ((Rw (f:=M.aJl.en) I).2) (XO I)) ?_
 refine Eh (J:=λs=>s.t 2=vP 2 1 0/\s.t 4=vP 4 1 0/\s.t 6=vP 6 1 0/\s.h 2=(1,oX 75 (M.aD.en p0))/\s.h 4=(1,oB 75 [cS (⟨#[]⟩:ByteArray),.nil,cI 0])/\s.h 6=(1,oB 75 [cS x1.Name,.row 200008 2,cI x1.aJ7])/\s.h 200008=(2,.row 320 4 (List.map M.aJl.en (List.take C.toNat U)) false)/\True) ?_ ?_
 ·and_intros<;>(try simp +decide only[LN,LI,F,reduceIte,Nat.reduceAdd,qB,qC,EN,M.aJl.en, *,-h])
 rintro bj f63
 apply K0 mixed
 ·simp +decide only[LN,LI,E,reduceIte,Nat.reduceAdd,Nat.reduceMul,qB,qC,L,SZ,Sy,EN, *,-h];exact⟨.mk jH,Is.mk _⟩
 refine an (frb 4 1 200008 ?_)
 refine rt ?_
 cases h
 simp[Ret,LN,LI,EN,Sy,M.aJl.en, *]
instance aA3:aZ 159 (∀p0 p1 p2 r (h:mF p0 p1 p2=some r),Sc 159 [aX (M.aA.en p0),aS p1,aI p2] [(true,M.aA.rs r.1),rB r.2]):=⟨λp0 p1 p2 r h=>by
 have i1:=λ(x1:M.aA)=>inv λm s=>∃v10:Int,(s.t 1=vS p1/\s.t 2=vI p2/\s.t 3=vP 3 1 0/\s.t 6=vP 6 1 0/\s.t 8=vP 8 1 0/\s.t 10=vI v10/\s.h 3=(1,oX 207 (M.aA.en p0))/\s.h 6=(1,oB 207 [.nil])/\s.h 8=(1,oB 207 [.row 100012 1])/\s.h 100012=(1,oW 322 2 M.Field.en x1.aJi))/\mN p0 p1 p2 x1 m v10=some r
 have e1:=@mN.eq_2
 unfold mF at h
 exact sgo 61 [.cell 6 207,.tmp 7] Tryz.func159⟩
instance:aZ 278 (∀p0 p1 p2 r (h:Aa p0 p1 p2=some r),Sc 278 [aL enB p0,aI p1,aL enB p2] [rW 5 1 enB r.1,rB r.2]):=⟨λp0 p1 p2 r h=>by unfold Aa at h;exact sgo 26 [.tmp 6,.tmp 7] Tryz.func278⟩
instance:aZ 282 (∀p0 p1 p2 p3 r (h:sY p0 p1 p2 p3=some r),Sc 282 [aX (M.aM.en p0),aX (M.Key.en p1),aS p2,aI p3] [(true,M.aM.rs r.1),rB r.2]):=⟨λp0 p1 p2 p3 r h=>by unfold sY at h;exact sgo 41 [.cell 8 78,.tmp 9] Tryz.func282⟩
