/-
  Helper text. No conditions.
-/
import Derived.Test.YtbpbocchokbggaaGreatOpenedWimpl4
import Derived.Test.YtbpbocchokbggaaGreatOpenedWlib
set_option linter.all false
namespace Go.Proofs.YtbpbocchokbggaaGreat.gen
open Go Go.Sh
set_option maxRecDepth 20000
set_option maxHeartbeats 4000000
instance:bK 200 (∀p0 r (h:AJ p0=some r),Sc 200 [aX (M.bP.en p0)] [(true,M.bP.rs r)]):=⟨λp0 r h=>by unfold AJ at h;exact sgo 12 [.cell 2 114] Tryz.func200⟩
instance:bK 204 (∀p0 r (h:kC p0=some r),Sc 204 [aX (M.aHD.en p0)] [(true,M.aHD.rs r)]):=⟨λp0 r h=>by unfold kC at h;exact sgo 16 [.cell 2 126] Tryz.func204⟩
instance:bK 183 (∀p0 r (h:cJ p0=some r),Sc 183 [aX (M.aA.en p0)] [(true,M.aA.rs r)]):=⟨λp0 r h=>by
 have i1:=ES [.b 3 0 7050000 126 24] λm s=>∃v10:Int,∃aa:List M.aHD,∃ae:Nat,(s.t 2=vP 2 1 0/\s.t 3=vP 3 1 0/\s.t 8=vL M.aHD.en p0.aHE/\s.t 9=vI (List.length p0.aHE:Int)/\s.t 10=vI v10/\s.h 2=(1,oB 47 [.nil])/\s.h 3=(1,oB 47 [.row 7050000 ae])/\s.h 7050000=(ae,oW 126 24 M.aHD.en aa))/\iG p0 m v10 aa=some r
 have e1:=@iG.eq_2
 unfold cJ at h
 exact sgo 23 [.cell 2 47] Tryz.func183⟩
instance:bK 383 (∀p0 r (h:xR p0=some r),Sc 383 [aX (M.aC.en p0)] [rB r]):=⟨λp0 r h=>by
 have i1:=inv λm s=>∃v8:Int,(s.t 1=vP 1 1 0/\s.t 6=vL M.aHV.en p0.aHF/\s.t 7=vI (List.length p0.aHF:Int)/\s.t 8=vI v8/\s.h 1=(1,oX 117 (M.aC.en p0)))/\kI p0 m v8=some r
 have e1:=@kI.eq_2
 unfold xR at h
 exact sgo 55 [.tmp 2] Tryz.func383⟩
instance:bK 527 (∀p0 p1 r (h:Bs p0 p1=some r),Sc 527 [aX (M.aC.en p0),aS p1] [rW 260 4 M.aHV.en r]):=⟨λp0 p1 r h=>by
 have i1:=inv λm s=>∃ah:Int,∃ae:List M.aHV,∃af:Nat,(s.t 1=vS p1/\s.t 5=vR 100011 af/\s.t 13=vL M.aHV.en p0.aHF/\s.t 14=vI (List.length p0.aHF:Int)/\s.t 15=vI ah/\s.h 100011=(af,oW 260 4 M.aHV.en ae))/\mN p0 p1 m ah ae=some r
 have e1:=@mN.eq_2
 have i2:=λ(ah:Int) (ae:List M.aHV) (ai:M.aHV) (aj:Int->Option (List M.aHV)) (s7:St) (af:Nat)=>inv λm s=>∃aa:Int,(s.t 1=vS p1/\s.t 5=vR 100011 af/\s.t 7=vP 7 ((s7.h 7).1+1) 0/\s.t 10=vI aa/\s.t 13=vL M.aHV.en p0.aHF/\s.t 14=vI (List.length p0.aHF:Int)/\s.t 15=vI ah/\s.h 7=((s7.h 7).1+1,oX 260 (M.aHV.en ai))/\s.h 100011=(af,oW 260 4 M.aHV.en ae))/\rA p1 ae ai aj m aa=some r
 have e2:=@rA.eq_2
 unfold Bs at h
 exact sgo 52 [.tmp 4] Tryz.func527⟩
instance:bK 450 (∀p0 p1 r (h:kW p0 p1=some r),Sc 450 [aX (M.aC.en p0),aS p1] [(true,M.Key.rs r.1),(true,M.Key.rs r.2.1),rB r.2.2]):=⟨λp0 p1 r h=>by
 have i1:=λ(x1:(List M.aHV))=>inv λm s=>∃v8:Int,(s.t 1=vS p1/\s.t 4=vP 4 1 0/\s.t 5=vP 5 1 0/\s.t 7=vR 100015 1/\s.t 8=vI v8/\s.h 4=(1,oB 136 [cI 0,cI 0,cS (⟨#[]⟩:ByteArray)])/\s.h 5=(1,oB 136 [cI 0,cI 0,cS (⟨#[]⟩:ByteArray)])/\s.h 100015=(1,oW 260 4 M.aHV.en x1))/\fW p1 x1 m v8=some r
 have e1:=@fW.eq_2
 unfold kW at h
 exact sgo 59 [.cell 4 136,.cell 5 136,.tmp 6] Tryz.func450⟩
instance:bK 335 (∀p0 r (h:xY p0=some r),Sc 335 [aX (M.aHB.en p0)] [rB r]):=⟨λp0 r h=>by
 have i1:=inv λm s=>∃aa:Int,(s.t 1=vP 1 1 0/\s.t 34=vL M.aC.en p0.aHP/\s.t 35=vI (List.length p0.aHP:Int)/\s.t 36=vI aa/\s.h 1=(1,oX 112 (M.aHB.en p0)))/\fA p0 m aa=some r
 have e1:=@fA.eq_2
 have i2:=inv λm s=>∃ae:Int,(s.t 1=vP 1 1 0/\s.t 62=vL M.aN.en p0.aHX/\s.t 63=vI (List.length p0.aHX:Int)/\s.t 64=vI ae/\s.h 1=(1,oX 112 (M.aHB.en p0)))/\fE p0 m ae=some r
 have e2:=@fE.eq_2
 unfold xY at h
 exact sgo 103 [.tmp 2] Tryz.func335⟩
instance:bK 384 (∀p0 r (h:yL p0=some r),Sc 384 [aX (M.aJ.en p0)] [rB r]):=⟨λp0 r h=>by
 have i1:=inv λm s=>∃aa:Int,(s.t 1=vP 1 1 0/\s.t 3=vI (List.length p0.aHW:Int)/\s.t 10=vL M.bB.en p0.aHW/\s.t 11=vI (List.length p0.aHW:Int)/\s.t 12=vI aa/\s.h 1=(1,oX 120 (M.aJ.en p0)))/\nW p0 m aa=some r
 have e1:=@nW.eq_2
 unfold yL at h
 exact sgo 51 [.tmp 2] Tryz.func384⟩
instance:bK 386 (∀p0 r (h:Ag p0=some r),Sc 386 [aX (M.aE.en p0)] [rB r]):=⟨λp0 r h=>by unfold Ag at h;exact sgo 23 [.tmp 2] Tryz.func386⟩
instance:bK 350 (∀p0 r (h:vD p0=some r),Sc 350 [aX (M.aD.en p0)] [rW 5 1 enB r]):=⟨λp0 r h=>by
 have i1:=ES [.t 3 7050000 5 1] λm s=>∃af:Int,∃aa:List Int,∃ae:Nat,(s.t 3=vR 7050000 ae/\s.t 15=vL M.Field.en p0.aHG/\s.t 16=vI (List.length p0.aHG:Int)/\s.t 17=vI af/\s.h 7050000=(ae,oW 5 1 enB aa))/\hH p0 m af aa=some r
 have e1:=@hH.eq_2
 unfold vD at h
 exact sgo 31 [.tmp 2] Tryz.func350⟩
instance:bK 480 (∀p0 r (h:wG p0=some r),Sc 480 [aX (M.aC.en p0)] [rI r]):=⟨λp0 r h=>by
 have i1:=inv λm s=>∃v3:Int,∃v9:Int,(s.t 3=vI v3/\s.t 7=vL M.aHV.en p0.aHF/\s.t 8=vI (List.length p0.aHF:Int)/\s.t 9=vI v9)/\lU p0 m v3 v9=some r
 have e1:=@lU.eq_2
 unfold wG at h
 exact sgo 26 [.tmp 2] Tryz.func480⟩
instance:bK 561 (∀p0 r (h:uZ p0=some r),Sc 561 [aX (M.aHB.en p0)] [rI r]):=⟨λp0 r h=>by
 have i1:=inv λm s=>∃v3:Int,∃v9:Int,(s.t 3=vI v3/\s.t 7=vL M.aC.en p0.aHP/\s.t 8=vI (List.length p0.aHP:Int)/\s.t 9=vI v9)/\gX p0 m v3 v9=some r
 have e1:=@gX.eq_2
 unfold uZ at h
 exact sgo 19 [.tmp 2] Tryz.func561⟩
instance:bK 244 (∀p0 r (h:AS p0=some r),Sc 244 [aX (M.aHO.en p0)] [rB r]):=⟨λp0 r h=>by
 have i1:=inv λm s=>∃v10:Int,(s.t 1=vP 1 1 0/\s.t 8=vL M.aO.en p0.aO/\s.t 9=vI (List.length p0.aO:Int)/\s.t 10=vI v10/\s.h 1=(1,oX 205 (M.aHO.en p0)))/\iA p0 m v10=some r
 have e1:=@iA.eq_2
 have i2:=inv λm s=>∃aa:Int,(s.t 1=vP 1 1 0/\s.t 43=vL M.bB.en p0.aHd/\s.t 44=vI (List.length p0.aHd:Int)/\s.t 45=vI aa/\s.h 1=(1,oX 205 (M.aHO.en p0)))/\kV p0 m aa=some r
 have e2:=@kV.eq_2
 unfold AS at h
 exact sgo 68 [.tmp 2] Tryz.func244⟩
instance:bK 246 (∀p0 r (h:BN p0=some r),Sc 246 [aI p0] [(true,M.aJ.rs r.1),rB r.2]):=⟨λp0 r h=>by unfold BN at h;exact sgo 12 [.cell 2 120,.tmp 3] Tryz.func246⟩
theorem aGV(p0 r)(h:AR p0=some r):Sc 388 [aL M.Instr.en p0] [rB r]:=by
 have i1:=inv λm s=>∃j:Int,(s.t 0=vL M.Instr.en p0/\s.t 5=vL M.Instr.en p0/\s.t 6=vI (List.length p0:Int)/\s.t 7=vI j)/\oJ p0 m j=some r
 have e1:=@oJ.eq_2
 unfold AR at h
 exact sgo 20 [.tmp 2] Tryz.func388
instance:bK 248 (∀p0 r (h:yI p0=some r),Sc 248 [aL M.Instr.en p0] [(true,M.aHJ.rs r)]):=⟨λp0 r h=>by
 unfold yI at h
 simp only[EN]
 refine sgn 16 [.cell 2 65] Tryz.func248 λbase wd => ?_
 refine sq (rn ?_)
 refine an (sq ?_)
 apply bE
 ·simp +decide only[E,reduceIte,Nat.reduceAdd,Nat.reduceMul,qB,qC,L,ti3,X9,aBM,enI,EN]
  try refine⟨jI,?_⟩
  try simp +decide only[E,reduceIte,Nat.reduceAdd,Nat.reduceMul,qB,qC,L,ti3,X9,aBM,enI,EN]
  exact Is.mk _
 refine an (sq (sq ?_))
 refine cu (λs=>s.t 0=vL M.Instr.en p0/\s.t 2=vP 2 1 0/\s.t 3=vP 3 1 0/\s.h 2=(1,aC8)/\s.h 3=(1,oB 65 [.nil,cI 0,.row 100004 1,cI 0,cB false,cB false])/\s.h 100004=(1,oW 3 1 enI (List.replicate 4 0))/\True) ?_
 rintro s1 f2
 obtain⟨x8,h9,h⟩:=bind_some h
 refine rn1 (aGV _ _ h9) ?_
 refine an ?_
 rcases dP (!x8)with aa | aa
 ·replace h:=bG aa h;refine ct (sq (rn ?_));refine an (sq (rn ?_));refine an (rt ?_);cases h;simp[Ret,TB,EN, *]
 replace h:=bF aa h
 refine cf (sk (an (sq ?_)))
 obtain⟨af,ae,h⟩:=bind_some h
 refine rn1 ae ?_
 refine an (sq (rn ?_))
 refine an (rt ?_)
 cases h
 simp[Ret,TB,EN, *]⟩
theorem aET(p0 p1 p2 p3 p4 r)(h:tJ p0 p1 p2 p3 p4=some r):Sc 100 [aI p0,aS p1,aS p2,aI p3,aL M.Instr.en p4] [(true,M.bC.rs r.1),rB r.2]:=by unfold tJ at h;exact sgo 25 [.cell 10 67,.tmp 11] Tryz.func100
instance:bK 280 (∀p0 p1 r (h:uB p0 p1=some r),Sc 280 [aX (M.aHL.en p0),aI p1] [rB r]):=⟨λp0 p1 r h=>by unfold uB at h;exact sgo 24 [.tmp 4] Tryz.func280⟩
instance:bK 484 (∀p0 p1 r (h:kK p0 p1=some r),Sc 484 [aI p0,aS p1] [rI r]):=⟨λp0 p1 r h=>by unfold kK at h;exact sgo 14 [.tmp 4] Tryz.func484⟩
instance:bK 390 (∀p0 p1 p2 r (h:Cn p0 p1 p2=some r),Sc 390 [aX (M.aHL.en p0),aS p1,aI p2] [rW 5 1 enB r]):=⟨λp0 p1 p2 r h=>by
 have i1:=λ(x5:Int)=>inv λm s=>∃v9:Int,∃aa:List Int,∃ae:Nat,(s.t 7=vI x5/\s.t 8=vR 100019 ae/\s.t 9=vI v9/\s.h 100019=(ae,oW 5 1 enB aa))/\fH x5 m v9 aa=some r
 have e1:=@fH.eq_2
 unfold Cn at h
 exact sgo 33 [.tmp 6] Tryz.func390⟩
instance:bK 249 (∀p0 p1 p2 r (h:zX p0 p1 p2=some r),Sc 249 [aX (M.aHL.en p0),aS p1,aI p2] [(true,M.aHH.rs r)]):=⟨λp0 p1 p2 r h=>by unfold zX at h;exact sgo 32 [.cell 6 189] Tryz.func249⟩
theorem aCW(p0 p1 p2 r)(h:vJ p0 p1 p2=some r):Sc 101 [aX (M.bC.en p0),aS p1,aX (M.aHH.en p2)] [(true,M.bC.rs r.1),rB r.2]:=by unfold vJ at h;exact sgo 43 [.cell 6 67,.tmp 7] Tryz.func101
theorem aGA(p0 p1 r)(h:sY p0 p1=some r):Sc 492 [aX (M.aHM.en p0),aX (M.aHM.en p1)] [rB r]:=by
 unfold sY at h
 simp only[EN]
 refine sgn 17 [.tmp 4] Tryz.func492 λbase wd => ?_
 refine sq (rn ?_)
 refine an (sq ?_)
 rcases Cw (p0.aHA==p1.aHA)with b1 | b1
 ·replace h:=bF b1 h;refine rn ?_;refine an (rt ?_);cases h;simp[Ret,TB,EN, *]
 replace h:=bG b1 h
 obtain⟨x2,h3,h⟩:=bind_some h
 refine rn1 (aGk p0.aHS p1.aHS (λj C=>sK j C) 566 [] (λj C r I=>aGU j C r I) x2 h3) ?_
 refine an (rt ?_)
 cases h
 simp[Ret,TB,EN, *]
instance:bK 400 (∀p0 p1 r (h:rU p0 p1=some r),Sc 400 [aX (M.aF.en p0),aX (M.aF.en p1)] [rB r]):=⟨λp0 p1 r h=>by
 unfold rU at h
 simp only[EN]
 refine sgn 10 [.tmp 4] Tryz.func400 λbase wd => ?_
 refine sq (rn ?_)
 refine an (sq ?_)
 obtain⟨x1,h2,h⟩:=bind_some h
 refine rn1 (aGl p0.aHC p1.aHC (λz0 z1=>sY z0 z1) 492 [] (λz0 z1 r hr=>aGA z0 z1 r hr) x1 h2) ?_
 refine an (rt ?_)
 cases h
 simp[Ret,TB,EN, *]⟩
instance:bK 493 (∀p0 p1 r (h:sA p0 p1=some r),Sc 493 [aX (M.aHB.en p0),aX (M.aHB.en p1)] [rB r]):=⟨λp0 p1 r h=>by
 unfold sA at h
 simp only[EN]
 refine sgn 31 [.tmp 4] Tryz.func493 λbase wd => ?_
 refine sq (rn ?_)
 refine an (sq ?_)
 rcases Cw (p0.Name.toList==p1.Name.toList)with b1 | b1
 ·replace h:=bF b1 h;refine rn ?_;refine an (rt ?_);cases h;simp[Ret,TB,EN, *]
 replace h:=bG b1 h
 rcases Cw (p0.aHA==p1.aHA)with b2 | b2
 ·replace h:=bF b2 h;refine rn ?_;refine an (rt ?_);cases h;simp[Ret,TB,EN, *]
 replace h:=bG b2 h
 obtain⟨x3,h4,h⟩:=bind_some h
 rcases Cw x3 with b5 | b5
 ·replace h:=bF b5 h;refine rn1 (aCZ p0.aHP p1.aHP (λz0 z1=>hJ z0 z1) 264 [] (λz0 z1 r hr=>aAV.1 z0 z1 r hr) x3 h4) ?_;refine an (rt ?_);cases h;simp[Ret,TB,EN, *]
 replace h:=bG b5 h
 obtain⟨x6,h7,h⟩:=bind_some h
 refine rn2 (aCZ p0.aHP p1.aHP (λz0 z1=>hJ z0 z1) 264 [] (λz0 z1 r hr=>aAV.1 z0 z1 r hr) x3 h4) (aF6 _ _ _ h7) ?_
 refine an (rt ?_)
 cases h
 simp[Ret,TB,EN, *]⟩
instance:bK 401 (∀p0 p1 r (h:yH p0 p1=some r),Sc 401 [aX (M.bP.en p0),aX (M.bP.en p1)] [rB r]):=⟨λp0 p1 r h=>by unfold yH at h;exact sgo 24 [.tmp 4] Tryz.func401⟩
instance:bK 402 (∀p0 p1 r (h:tU p0 p1=some r),Sc 402 [aX (M.aE.en p0),aX (M.aE.en p1)] [rB r]):=⟨λp0 p1 r h=>by unfold tU at h;exact sgo 24 [.tmp 4] Tryz.func402⟩
theorem aG5(p0 p1 r)(h:pY p0 p1=some r):Sc 260 [aX (M.aHD.en p0),aX (M.aHD.en p1)] [rB r]:=by unfold pY at h;exact sgo 59 [.tmp 4] Tryz.func260
theorem aGO(p0 p1 r)(h:rG p0 p1=some r):Sc 119 [aX (M.aHO.en p0),aX (M.aHO.en p1)] [rB r]:=by unfold rG at h;exact sgo 24 [.tmp 4] Tryz.func119
