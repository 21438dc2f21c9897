/-
  Helper text. No conditions.
-/
import Derived.Test.YtbpbocchokbggaaGreatUpdatesWimpl3
import Derived.Test.YtbpbocchokbggaaGreatUpdatesWlib
set_option linter.all false
namespace Go.Proofs.YtbpbocchokbggaaGreat.gen
open Go Go.Sh
set_option maxRecDepth 20000
set_option maxHeartbeats 4000000
instance:bE 190 (∀p0 r (h:wG p0=some r),Sc 190 [aX (M.aI2.en p0)] [(true,M.aI2.rs r)]):=⟨λp0 r h=>by
 have i1:=E5 [.b 3 2 7050000 117 3] λm s=>∃af:Int,∃aa:List M.aD,∃ae:Nat,(s.t 2=vP 2 1 0/\s.t 3=vP 3 1 0/\s.t 16=vL M.aD.en p0.aJF/\s.t 17=vI (List.length p0.aJF:Int)/\s.t 18=vI af/\s.h 2=(1,Ey)/\s.h 3=(1,oB 112 [cS p0.Name,cI p0.aI0,.row 7050000 ae,.row 100010 2])/\s.h 100010=(2,oW 471 2 M.aN.en p0.aJO)/\s.h 7050000=(ae,oW 117 3 M.aD.en aa))/\iB p0 m af aa=some r
 have e1:=@iB.eq_2
 unfold wG at h
 exact sgo 31 [.cell 2 112] Tryz.func190⟩
instance:bE 200 (∀p0 r (h:A5 p0=some r),Sc 200 [aX (M.bR.en p0)] [(true,M.bR.rs r)]):=⟨λp0 r h=>by unfold A5 at h;exact sgo 12 [.cell 2 114] Tryz.func200⟩
instance:bE 352 (∀p0 r (h:yC p0=some r),Sc 352 [aX (M.aG.en p0)] [(true,M.aG.rs r)]):=⟨λp0 r h=>by unfold yC at h;exact sgo 12 [.cell 2 124] Tryz.func352⟩
instance:bE 279 (∀p0 r (h:gA p0=some r),Sc 279 [aX (M.aIz.en p0)] [rB r]):=⟨λp0 r h=>by
 unfold gA at h
 simp only[EN]
 refine sgn 37 [.tmp 2] Tryz.func279 λbase wd => ?_
 refine sq (rn ?_)
 refine an (sq (rn ?_))
 refine an (sq (sq (rn ?_)))
 refine an (bk ?_)
 refine cu (λs=>s.t 1=vP 1 1 0/\s.t 3=vI 0/\s.t 12=vR 100012 1/\s.t 13=vI ((3:Nat):Int)/\s.t 14=vI 0/\s.h 1=(1,oX 105 (M.aIz.en p0))/\s.h 100012=(1,oW 3 1 enI ([p0.aJX,p0.aJT,p0.aJP]))/\True) ?_
 rintro s1 f2
 refine JX (λm s=>∃v3:Int,∃aa:Int,s.t 1=vP 1 1 0/\s.t 3=vI v3/\s.t 12=vR 100012 1/\s.t 13=vI ((3:Nat):Int)/\s.t 14=vI aa/\s.h 1=(1,oX 105 (M.aIz.en p0))/\s.h 100012=(1,oW 3 1 enI ([p0.aJX,p0.aJT,p0.aJP]))/\dX p0 m v3 aa=some r) fuel ?_ ?_
 ·refine⟨0,0,?_,?_,?_,?_,?_,?_,?_,h⟩;all_goals simp +decide only[F,reduceIte,Nat.reduceAdd,qB,qC,EN, *,-h]
 rintro mL1 s9 ⟨v3,aa,f10,f11,f12,f13,f14,f15,f16,h⟩
 rcases mL1 with _ | mL1
 ·exact absurd h (by simp[dX])
 simp only[dX]at h
 refine sq (rn ?_)
 refine an (sq ?_)
 rcases C1 (decide (aa<((3:Nat):Int)))with af | af
 ·replace h:=bY af h;refine cf (xt (Gn (Gg (Lk (an (sq ?_))))));obtain⟨av,al,h⟩:=bind_some h;refine rn1 (aDO.1 _ _ al) ?_;refine an (rt ?_);cases h;simp[Ret,TB,EN, *]
 replace h:=bZ af h
 refine ct (sk (an (sq (bk (sq ?_)))))
 obtain⟨ae,ao,h⟩:=bind_some h
 obtain⟨aw,ax,aq⟩:=wM ao
 have q20m:=congrArg (Option.map enI) (show([p0.aJX,p0.aJT,p0.aJP])[aa.toNat]? = some ae by assumption)
 simp only[<-List.getElem?_map,List.map_cons,List.map_nil,Option.map_some,EN]at q20m
 simp only[qJ,qK,Nat.reduceAdd]at aq
 refine rn ?_
 refine an (sq (sq ?_))
 obtain⟨ar,ah,h⟩:=bind_some h
 rcases mT (!ar)with ai | ai
 ·replace h:=bZ ai h;refine rn1 (aBN.1 _ _ _ _ ah) ?_;refine an (ct (sq (rn ?_)));refine an (rt ?_);cases h;simp[Ret,TB,EN, *]
 replace h:=bY ai h
 rcases C1 (ae != 0)with aj | aj
 ·replace h:=bY aj h;refine rn1 (aBN.1 _ _ _ _ ah) ?_;refine an (cf (sk (an (rn ?_))));refine ab (an (rn ?_));refine iU ⟨mL1,jB,if ae>v3 then ae else v3,IntKind.i64.wrap (aa+1),?_,?_,?_,?_,?_,?_,?_,h⟩;all_goals simp +decide only[F,reduceIte,Nat.reduceAdd,qB,qC,EN, *,-h]
 replace h:=bZ aj h
 refine rn1 (aBN.1 _ _ _ _ ah) ?_
 refine an ?_
 rcases mT (decide (ae<=v3))with ak | ak
 ·replace h:=bZ ak h;refine ct (sq (rn ?_));refine an (rt ?_);cases h;simp[Ret,TB,EN, *]
 replace h:=bY ak h
 refine cf (sk (an (rn ?_)))
 refine ab (an (rn ?_))
 refine iU ⟨mL1,jB,if ae>v3 then ae else v3,IntKind.i64.wrap (aa+1),?_,?_,?_,?_,?_,?_,?_,h⟩
 all_goals simp +decide only[F,reduceIte,Nat.reduceAdd,qB,qC,EN, *,-h]⟩
instance:bE 199 (∀p0 r (h:zE p0=some r),Sc 199 [aX (M.aE.en p0)] [rB r]):=⟨λp0 r h=>by
 have i1:=inv λm s=>∃v8:Int,(s.t 1=vP 1 1 0/\s.t 6=vL M.Field.en p0.aI9/\s.t 7=vI (List.length p0.aI9:Int)/\s.t 8=vI v8/\s.h 1=(1,oX 129 (M.aE.en p0)))/\iI p0 m v8=some r
 have e1:=@iI.eq_2
 unfold zE at h
 exact sgo 44 [.tmp 2] Tryz.func199⟩
instance:bE 383 (∀p0 r (h:yN p0=some r),Sc 383 [aX (M.aD.en p0)] [rB r]):=⟨λp0 r h=>by
 have i1:=inv λm s=>∃v8:Int,(s.t 1=vP 1 1 0/\s.t 6=vL M.aJN.en p0.aI6/\s.t 7=vI (List.length p0.aI6:Int)/\s.t 8=vI v8/\s.h 1=(1,oX 117 (M.aD.en p0)))/\kO p0 m v8=some r
 have e1:=@kO.eq_2
 unfold yN at h
 exact sgo 55 [.tmp 2] Tryz.func383⟩
instance:bE 586 (∀p0 p1 p2 r (h:xW p0 p1 p2=some r),Sc 586 [aX (M.aJN.en p0),aX (M.aJN.en p1),aS p2] [rB r]):=⟨λp0 p1 p2 r h=>by unfold xW at h;exact sgo 41 [.tmp 6] Tryz.func586⟩
instance:bE 527 (∀p0 p1 r (h:BQ p0 p1=some r),Sc 527 [aX (M.aD.en p0),aS p1] [rW 260 4 M.aJN.en r]):=⟨λp0 p1 r h=>by
 have i1:=inv λm s=>∃ah:Int,∃ae:List M.aJN,∃af:Nat,(s.t 1=vS p1/\s.t 5=vR 100011 af/\s.t 13=vL M.aJN.en p0.aI6/\s.t 14=vI (List.length p0.aI6:Int)/\s.t 15=vI ah/\s.h 100011=(af,oW 260 4 M.aJN.en ae))/\nC p0 p1 m ah ae=some r
 have e1:=@nC.eq_2
 have i2:=λ(ah:Int) (ae:List M.aJN) (ai:M.aJN) (aj:Int->Option (List M.aJN)) (s7:St) (af:Nat)=>inv λm s=>∃aa:Int,(s.t 1=vS p1/\s.t 5=vR 100011 af/\s.t 7=vP 7 ((s7.h 7).1+1) 0/\s.t 10=vI aa/\s.t 13=vL M.aJN.en p0.aI6/\s.t 14=vI (List.length p0.aI6:Int)/\s.t 15=vI ah/\s.h 7=((s7.h 7).1+1,oX 260 (M.aJN.en ai))/\s.h 100011=(af,oW 260 4 M.aJN.en ae))/\rJ p1 ae ai aj m aa=some r
 have e2:=@rJ.eq_2
 unfold BQ at h
 exact sgo 52 [.tmp 4] Tryz.func527⟩
instance:bE 382 (∀p0 r (h:oZ p0=some r),Sc 382 [aX (M.bC.en p0)] [rB r]):=⟨λp0 r h=>by unfold oZ at h;exact sgo 26 [.tmp 2] Tryz.func382⟩
instance:bE 384 (∀p0 r (h:A8 p0=some r),Sc 384 [aX (M.aK.en p0)] [rB r]):=⟨λp0 r h=>by
 have i1:=inv λm s=>∃aa:Int,(s.t 1=vP 1 1 0/\s.t 3=vI (List.length p0.aJM:Int)/\s.t 10=vL M.bC.en p0.aJM/\s.t 11=vI (List.length p0.aJM:Int)/\s.t 12=vI aa/\s.h 1=(1,oX 120 (M.aK.en p0)))/\oG p0 m aa=some r
 have e1:=@oG.eq_2
 unfold A8 at h
 exact sgo 51 [.tmp 2] Tryz.func384⟩
instance:bE 350 (∀p0 r (h:vY p0=some r),Sc 350 [aX (M.aE.en p0)] [rW 5 1 enB r]):=⟨λp0 r h=>by
 have i1:=E5 [.t 3 7050000 5 1] λm s=>∃af:Int,∃aa:List Int,∃ae:Nat,(s.t 3=vR 7050000 ae/\s.t 15=vL M.Field.en p0.aI9/\s.t 16=vI (List.length p0.aI9:Int)/\s.t 17=vI af/\s.h 7050000=(ae,oW 5 1 enB aa))/\iD p0 m af aa=some r
 have e1:=@iD.eq_2
 unfold vY at h
 exact sgo 31 [.tmp 2] Tryz.func350⟩
instance:bE 241 (∀p0 r (h:xP p0=some r),Sc 241 [aX (M.aQ.en p0)] [rB r]):=⟨λp0 r h=>by
 have i1:=inv λm s=>∃v10:Int,(s.t 1=vP 1 1 0/\s.t 8=vL M.mV.en p0.aJJ/\s.t 9=vI (List.length p0.aJJ:Int)/\s.t 10=vI v10/\s.h 1=(1,oX 51 (M.aQ.en p0)))/\fY p0 m v10=some r
 have e1:=@fY.eq_2
 have i2:=λ(v10:Int) (x8:M.mV) (ae:Int->Option Bool) (s1:St)=>inv λm s=>∃aa:Int,(s.t 1=vP 1 1 0/\s.t 4=vP 4 ((s1.h 4).1+1) 0/\s.t 8=vL M.mV.en p0.aJJ/\s.t 9=vI (List.length p0.aJJ:Int)/\s.t 10=vI v10/\s.t 28=vL M.mV.en (List.take v10.toNat p0.aJJ)/\s.t 29=vI (List.length (List.take v10.toNat p0.aJJ):Int)/\s.t 30=vI aa/\s.h 1=(1,oX 51 (M.aQ.en p0))/\s.h 4=((s1.h 4).1+1,oX 196 (M.mV.en x8)))/\dA p0 v10 x8 ae m aa=some r
 have e2:=@dA.eq_2
 unfold xP at h
 exact sgo 64 [.tmp 2] Tryz.func241⟩
instance:bE 134 (∀p0 p1 r (h:vT p0 p1=some r),Sc 134 [aX (M.aIz.en p0),aI p1] [(true,M.aIz.rs r.1),rB r.2]):=⟨λp0 p1 r h=>by unfold vT at h;exact sgo 29 [.cell 4 105,.tmp 5] Tryz.func134⟩
instance:bE 483 (∀p0 p1 r (h:xF p0 p1=some r),Sc 483 [aI p0,aL enI p1] [rI r]):=⟨λp0 p1 r h=>by unfold xF at h;exact sgo 13 [.tmp 4] Tryz.func483⟩
instance:bE 484 (∀p0 p1 r (h:kQ p0 p1=some r),Sc 484 [aI p0,aS p1] [rI r]):=⟨λp0 p1 r h=>by unfold kQ at h;exact sgo 14 [.tmp 4] Tryz.func484⟩
instance:bE 136 (∀p0 p1 r (h:yU p0 p1=some r),Sc 136 [aX (M.aIz.en p0),aB p1] [(true,M.aIz.rs r.1),rI r.2]):=⟨λp0 p1 r h=>by unfold yU at h;exact sgo 27 [.cell 4 105,.tmp 5] Tryz.func136⟩
instance:bE 137 (∀p0 p1 r (h:wX p0 p1=some r),Sc 137 [aX (M.aC.en p0),aI p1] [(true,M.aC.rs r.1),rB r.2]):=⟨λp0 p1 r h=>by unfold wX at h;exact sgo 24 [.cell 4 108,.tmp 5] Tryz.func137⟩
theorem aIN(p0 p1 r)(h:sQ p0 p1=some r):Sc 566 [aX (M.aJE.en p0),aX (M.aJE.en p1)] [rB r]:=by unfold sQ at h;exact sgo 24 [.tmp 4] Tryz.func566
theorem aH7(p0 p1 r)(h:tC p0 p1=some r):Sc 492 [aX (M.aI5.en p0),aX (M.aI5.en p1)] [rB r]:=by
 unfold tC at h
 simp only[EN]
 refine sgn 17 [.tmp 4] Tryz.func492 λbase wd => ?_
 refine sq (rn ?_)
 refine an (sq ?_)
 rcases C1 (p0.aI0==p1.aI0)with b1 | b1
 ·replace h:=bY b1 h;refine rn ?_;refine an (rt ?_);cases h;simp[Ret,TB,EN, *]
 replace h:=bZ b1 h
 obtain⟨x2,h3,h⟩:=bind_some h
 refine rn1 (aIc p0.aJB p1.aJB (λj C=>sQ j C) 566 [] (λj C r I=>aIN j C r I) x2 h3) ?_
 refine an (rt ?_)
 cases h
 simp[Ret,TB,EN, *]
instance aB5:bE 264 (∀p0 p1 r (h:iE p0 p1=some r),Sc 264 [aX (M.aD.en p0),aX (M.aD.en p1)] [rB r]):=⟨λp0 p1 r h=>by
 unfold iE at h
 simp only[EN]
 refine sgn 24 [.tmp 4] Tryz.func264 λbase wd => ?_
 refine sq (rn ?_)
 refine an (sq ?_)
 rcases C1 (p0.Name.toList==p1.Name.toList)with b1 | b1
 ·replace h:=bY b1 h;refine rn ?_;refine an (rt ?_);cases h;simp[Ret,TB,EN, *]
 replace h:=bZ b1 h
 rcases C1 (p0.aJa==p1.aJa)with b2 | b2
 ·replace h:=bY b2 h;refine rn ?_;refine an (rt ?_);cases h;simp[Ret,TB,EN, *]
 replace h:=bZ b2 h
 obtain⟨x3,h4,h⟩:=bind_some h
 refine rn1 (aIV p0.aI6 p1.aI6 (λz0 z1=>vD z0 z1) 406 [] (λz0 z1 r hr=>aIH z0 z1 r hr) x3 h4) ?_
 refine an (rt ?_)
 cases h
 simp[Ret,TB,EN, *]⟩
instance:bE 493 (∀p0 p1 r (h:sG p0 p1=some r),Sc 493 [aX (M.aI2.en p0),aX (M.aI2.en p1)] [rB r]):=⟨λp0 p1 r h=>by
 unfold sG at h
 simp only[EN]
 refine sgn 31 [.tmp 4] Tryz.func493 λbase wd => ?_
 refine sq (rn ?_)
 refine an (sq ?_)
 rcases C1 (p0.Name.toList==p1.Name.toList)with b1 | b1
 ·replace h:=bY b1 h;refine rn ?_;refine an (rt ?_);cases h;simp[Ret,TB,EN, *]
 replace h:=bZ b1 h
 rcases C1 (p0.aI0==p1.aI0)with b2 | b2
 ·replace h:=bY b2 h;refine rn ?_;refine an (rt ?_);cases h;simp[Ret,TB,EN, *]
 replace h:=bZ b2 h
 obtain⟨x3,h4,h⟩:=bind_some h
 rcases C1 x3 with b5 | b5
 ·replace h:=bY b5 h;refine rn1 (aEH p0.aJF p1.aJF (λz0 z1=>iE z0 z1) 264 [] (λz0 z1 r hr=>aB5.1 z0 z1 r hr) x3 h4) ?_;refine an (rt ?_);cases h;simp[Ret,TB,EN, *]
 replace h:=bZ b5 h
 obtain⟨x6,h7,h⟩:=bind_some h
 refine rn2 (aEH p0.aJF p1.aJF (λz0 z1=>iE z0 z1) 264 [] (λz0 z1 r hr=>aB5.1 z0 z1 r hr) x3 h4) (aH4 _ _ _ h7) ?_
 refine an (rt ?_)
 cases h
 simp[Ret,TB,EN, *]⟩
instance:bE 402 (∀p0 p1 r (h:tX p0 p1=some r),Sc 402 [aX (M.aG.en p0),aX (M.aG.en p1)] [rB r]):=⟨λp0 p1 r h=>by unfold tX at h;exact sgo 24 [.tmp 4] Tryz.func402⟩
theorem aII(p0 p1 r)(h:rP p0 p1=some r):Sc 119 [aX (M.aJC.en p0),aX (M.aJC.en p1)] [rB r]:=by unfold rP at h;exact sgo 24 [.tmp 4] Tryz.func119
instance:bE 294 (∀p0 p1 r (h:xT p0 p1=some r),Sc 294 [aX (M.aIz.en p0),aL enI p1] [rB r]):=⟨λp0 p1 r h=>by unfold xT at h;exact sgo 19 [.tmp 4] Tryz.func294⟩
theorem c34(p0 p1 p2 r)(h:lI p0 p1 p2=some r):Sc 34 [aX (M.World.en p0),aX (M.bG.en p1),aS p2] [rB r]:=by unfold lI at h;exact sgo 34 [.tmp 6] Tryz.func34
