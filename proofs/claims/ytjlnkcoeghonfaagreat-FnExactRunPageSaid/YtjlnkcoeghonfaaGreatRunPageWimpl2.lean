/-
  Helper text. No conditions.
-/
import Derived.Test.YtjlnkcoeghonfaaGreatRunPageWimpl0
import Derived.Test.YtjlnkcoeghonfaaGreatRunPageWimpl1
import Derived.Test.YtjlnkcoeghonfaaGreatRunPageWlib
set_option linter.all false
namespace Go.Proofs.YtjlnkcoeghonfaaGreat.gen
open Go Go.Sh
open Go.IntKind (i64)
set_option maxRecDepth 20000
set_option maxHeartbeats 4000000
instance Y6:aW 266 (∀p0 r (h:dO p0=some r),Sc 266 [aX (M.aJj.en p0)] [(true,M.aJj.rs r)]):=⟨λp0 r h=>by
 have i1:=Mt [.b 3 2 7050000 75 3] λm s=>∃af:Int,∃aa:List M.aD,∃ae:Nat,(s.t 2=vP 2 1 0/\s.t 3=vP 3 1 0/\s.t 16=vL M.aD.en p0.aJw/\s.t 17=vI (List.length p0.aJw:Int)/\s.t 18=vI af/\s.h 2=(1,Xe)/\s.h 3=(1,oB 70 [cS p0.Name,cI p0.aJl,.row 7050000 ae,.row 100010 2])/\s.h 100010=(2,oW 382 2 M.aG.en p0.aJ5)/\s.h 7050000=(ae,oW 75 3 M.aD.en aa))/\gJ p0 m af aa=some r
 have e1:=@gJ.eq_2
 unfold dO at h
 exact sgo 31 [.cell 2 70] Tryz.func266⟩
instance:aW 276 (∀p0 r (h:xH p0=some r),Sc 276 [aX (M.bL.en p0)] [(true,M.bL.rs r)]):=⟨λp0 r h=>by unfold xH at h;exact sgo 12 [.cell 2 72] Tryz.func276⟩
instance:aW 281 (∀p0 r (h:pU p0=some r),Sc 281 [aX (M.aE.en p0)] [(true,M.aE.rs r)]):=⟨λp0 r h=>by unfold pU at h;exact sgo 12 [.cell 2 82] Tryz.func281⟩
instance:aW 253 (∀p0 r (h:eC p0=some r),Sc 253 [aX (M.aJi.en p0)] [(true,M.aJi.rs r)]):=⟨λp0 r h=>by unfold eC at h;exact sgo 16 [.cell 2 84] Tryz.func253⟩
instance:aW 138 (∀p0 r (h:xS p0=some r),Sc 138 [aX (M.aJv.en p0)] [(true,M.aJv.rs r)]):=⟨λp0 r h=>by unfold xS at h;exact sgo 15 [.cell 2 156] Tryz.func138⟩
instance:aW 369 (∀p0 r (h:vX p0=some r),Sc 369 [aX (M.aJk.en p0)] [rB r]):=⟨λp0 r h=>by
 unfold vX at h
 simp only[EN]
 refine sgn 37 [.tmp 2] Tryz.func369 λbase wd => ?_
 refine sq (rn ?_)
 refine an (sq (rn ?_))
 refine an (sq (sq (rn ?_)))
 refine an (bk ?_)
 refine cu (λs=>s.t 1=vP 1 1 0/\s.t 3=vI 0/\s.t 12=vR 100012 1/\s.t 13=vI ((3:Nat):Int)/\s.t 14=vI 0/\s.h 1=(1,oX 63 (M.aJk.en p0))/\s.h 100012=(1,oW 3 1 enI ([p0.aKT,p0.aKN,p0.aKI]))/\True) ?_
 rintro s1 f2
 refine GJ (λm s=>∃v3:Int,∃aa:Int,s.t 1=vP 1 1 0/\s.t 3=vI v3/\s.t 12=vR 100012 1/\s.t 13=vI ((3:Nat):Int)/\s.t 14=vI aa/\s.h 1=(1,oX 63 (M.aJk.en p0))/\s.h 100012=(1,oW 3 1 enI ([p0.aKT,p0.aKN,p0.aKI]))/\dR p0 m v3 aa=some r) fuel ?_ ?_
 ·refine⟨0,0,?_,?_,?_,?_,?_,?_,?_,h⟩;all_goals simp +decide only[F,reduceIte,Nat.reduceAdd,qB,qC,EN, *,-h]
 rintro mL1 s9 ⟨v3,aa,f10,f11,f12,f13,f14,f15,f16,h⟩
 rcases mL1 with _ | mL1
 ·exact absurd h (by simp[dR])
 simp only[dR]at h
 refine sq (rn ?_)
 refine an (sq ?_)
 rcases GH (decide (aa<((3:Nat):Int)))with af | af
 ·replace h:=bJ af h;refine cf (xt (E2 (EW (IA (an (sq ?_))))));obtain⟨av,al,h⟩:=bind_some h;refine rn1 (aAV.1 _ _ al) ?_;refine an (rt ?_);cases h;simp[Ret,TB,EN, *]
 replace h:=bK af h
 refine ct (sk (an (sq (bk (sq ?_)))))
 obtain⟨ae,ao,h⟩:=bind_some h
 obtain⟨aw,ax,aq⟩:=aU ao
 have q20m:=congrArg (Option.map enI) (show([p0.aKT,p0.aKN,p0.aKI])[aa.toNat]? = some ae by assumption)
 simp only[<-List.getElem?_map,List.map_cons,List.map_nil,Option.map_some,EN]at q20m
 simp only[qJ,qK,Nat.reduceAdd]at aq
 refine rn ?_
 refine an (sq (sq ?_))
 obtain⟨ar,ah,h⟩:=bind_some h
 rcases cM (!ar)with ai | ai
 ·replace h:=bK ai h;refine rn1 (Qw.1 _ _ _ _ ah) ?_;refine an (ct (sq (rn ?_)));refine an (rt ?_);cases h;simp[Ret,TB,EN, *]
 replace h:=bJ ai h
 rcases GH (ae != 0)with aj | aj
 ·replace h:=bJ aj h;refine rn1 (Qw.1 _ _ _ _ ah) ?_;refine an (cf (sk (an (rn ?_))));refine ab (an (rn ?_));refine jX ⟨mL1,jD,if ae>v3 then ae else v3,i64.wrap (aa+1),?_,?_,?_,?_,?_,?_,?_,h⟩;all_goals simp +decide only[F,reduceIte,Nat.reduceAdd,qB,qC,EN, *,-h]
 replace h:=bK aj h
 refine rn1 (Qw.1 _ _ _ _ ah) ?_
 refine an ?_
 rcases cM (decide (ae<=v3))with ak | ak
 ·replace h:=bK ak h;refine ct (sq (rn ?_));refine an (rt ?_);cases h;simp[Ret,TB,EN, *]
 replace h:=bJ ak h
 refine cf (sk (an (rn ?_)))
 refine ab (an (rn ?_))
 refine jX ⟨mL1,jD,if ae>v3 then ae else v3,i64.wrap (aa+1),?_,?_,?_,?_,?_,?_,?_,h⟩
 all_goals simp +decide only[F,reduceIte,Nat.reduceAdd,qB,qC,EN, *,-h]⟩
instance:aW 370 (∀p0 r (h:wV p0=some r),Sc 370 [aX (M.aO.en p0)] [rB r]):=⟨λp0 r h=>by
 have i1:=inv λm s=>∃v10:Int,(s.t 1=vP 1 1 0/\s.t 8=vL M.aJ0.en p0.aJs/\s.t 9=vI (List.length p0.aJs:Int)/\s.t 10=vI v10/\s.h 1=(1,oX 66 (M.aO.en p0)))/\fB p0 m v10=some r
 have e1:=@fB.eq_2
 have i2:=λ(v10:Int) (x8:M.aJ0) (af:Int->Option Bool) (s1:St)=>inv λm s=>∃aa:Int,(s.t 1=vP 1 1 0/\s.t 4=vP 4 ((s1.h 4).1+1) 0/\s.t 8=vL M.aJ0.en p0.aJs/\s.t 9=vI (List.length p0.aJs:Int)/\s.t 10=vI v10/\s.t 42=vL M.aJx.en x8.aJ1/\s.t 43=vI (List.length x8.aJ1:Int)/\s.t 44=vI aa/\s.h 1=(1,oX 66 (M.aO.en p0))/\s.h 4=((s1.h 4).1+1,oX 277 (M.aJ0.en x8)))/\fC x8 af m aa=some r
 have e2:=@fC.eq_2
 have i3:=λ(v10:Int) (x8:M.aJ0) (ah:Int->Option Bool) (s1:St)=>inv λm s=>∃ae:Int,(s.t 1=vP 1 1 0/\s.t 4=vP 4 ((s1.h 4).1+1) 0/\s.t 8=vL M.aJ0.en p0.aJs/\s.t 9=vI (List.length p0.aJs:Int)/\s.t 10=vI v10/\s.t 42=vL M.aJx.en x8.aJ1/\s.t 43=vI (List.length x8.aJ1:Int)/\s.t 44=vI ae/\s.h 1=(1,oX 66 (M.aO.en p0))/\s.h 4=((s1.h 4).1+1,oX 277 (M.aJ0.en x8)))/\eT x8 ah m ae=some r
 have e3:=@eT.eq_2
 unfold wV at h
 exact sgo 81 [.tmp 2] Tryz.func370⟩
instance:aW 275 (∀p0 r (h:cK p0=some r),Sc 275 [aX (M.aC.en p0)] [rB r]):=⟨λp0 r h=>by
 have i1:=inv λm s=>∃v8:Int,(s.t 1=vP 1 1 0/\s.t 6=vL M.Field.en p0.aJq/\s.t 7=vI (List.length p0.aJq:Int)/\s.t 8=vI v8/\s.h 1=(1,oX 207 (M.aC.en p0)))/\gS p0 m v8=some r
 have e1:=@gS.eq_2
 unfold cK at h
 exact sgo 44 [.tmp 2] Tryz.func275⟩
instance aCl:aW 263 (∀p0 r (h:bT p0=some r),Sc 263 [aX (M.aD.en p0)] [rB r]):=⟨λp0 r h=>by
 have i1:=inv λm s=>∃v8:Int,(s.t 1=vP 1 1 0/\s.t 6=vL M.aJt.en p0.aJm/\s.t 7=vI (List.length p0.aJm:Int)/\s.t 8=vI v8/\s.h 1=(1,oX 75 (M.aD.en p0)))/\iR p0 m v8=some r
 have e1:=@iR.eq_2
 unfold bT at h
 exact sgo 55 [.tmp 2] Tryz.func263⟩
instance:aW 586 (∀p0 p1 p2 r (h:vK p0 p1 p2=some r),Sc 586 [aX (M.aJt.en p0),aX (M.aJt.en p1),aS p2] [rB r]):=⟨λp0 p1 p2 r h=>by unfold vK at h;exact sgo 41 [.tmp 6] Tryz.func586⟩
instance:aW 549 (∀p0 p1 r (h:Cy p0 p1=some r),Sc 549 [aX (M.aD.en p0),aS p1] [rW 320 4 M.aJt.en r]):=⟨λp0 p1 r h=>by
 have i1:=inv λm s=>∃ah:Int,∃ae:List M.aJt,∃af:Nat,(s.t 1=vS p1/\s.t 5=vR 100011 af/\s.t 13=vL M.aJt.en p0.aJm/\s.t 14=vI (List.length p0.aJm:Int)/\s.t 15=vI ah/\s.h 100011=(af,oW 320 4 M.aJt.en ae))/\lM p0 p1 m ah ae=some r
 have e1:=@lM.eq_2
 have i2:=λ(ah:Int) (ae:List M.aJt) (ai:M.aJt) (aj:Int->Option (List M.aJt)) (s7:St) (af:Nat)=>inv λm s=>∃aa:Int,(s.t 1=vS p1/\s.t 5=vR 100011 af/\s.t 7=vP 7 ((s7.h 7).1+1) 0/\s.t 10=vI aa/\s.t 13=vL M.aJt.en p0.aJm/\s.t 14=vI (List.length p0.aJm:Int)/\s.t 15=vI ah/\s.h 7=((s7.h 7).1+1,oX 320 (M.aJt.en ai))/\s.h 100011=(af,oW 320 4 M.aJt.en ae))/\oJ p1 ae ai aj m aa=some r
 have e2:=@oJ.eq_2
 unfold Cy at h
 exact sgo 52 [.tmp 4] Tryz.func549⟩
instance:aW 471 (∀p0 p1 r (h:kD p0 p1=some r),Sc 471 [aX (M.aD.en p0),aS p1] [(true,M.Key.rs r.1),(true,M.Key.rs r.2.1),rB r.2.2]):=⟨λp0 p1 r h=>by
 have i1:=λ(x1:(List M.aJt))=>inv λm s=>∃v8:Int,(s.t 1=vS p1/\s.t 4=vP 4 1 0/\s.t 5=vP 5 1 0/\s.t 7=vR 100015 1/\s.t 8=vI v8/\s.h 4=(1,oB 216 [cI 0,cI 0,cS (⟨#[]⟩:ByteArray)])/\s.h 5=(1,oB 216 [cI 0,cI 0,cS (⟨#[]⟩:ByteArray)])/\s.h 100015=(1,oW 320 4 M.aJt.en x1))/\fM p1 x1 m v8=some r
 have e1:=@fM.eq_2
 unfold kD at h
 exact sgo 59 [.cell 4 216,.cell 5 216,.tmp 6] Tryz.func471⟩
instance:aW 262 (∀p0 r (h:mX p0=some r),Sc 262 [aX (M.aY.en p0)] [rB r]):=⟨λp0 r h=>by unfold mX at h;exact sgo 26 [.tmp 2] Tryz.func262⟩
instance:aW 407 (∀p0 r (h:sS p0=some r),Sc 407 [aX (M.aM.en p0)] [rB r]):=⟨λp0 r h=>by
 have i1:=inv λm s=>∃aa:Int,(s.t 1=vP 1 1 0/\s.t 3=vI (List.length p0.aJ9:Int)/\s.t 10=vL M.aY.en p0.aJ9/\s.t 11=vI (List.length p0.aJ9:Int)/\s.t 12=vI aa/\s.h 1=(1,oX 78 (M.aM.en p0)))/\mK p0 m aa=some r
 have e1:=@mK.eq_2
 unfold sS at h
 exact sgo 51 [.tmp 2] Tryz.func407⟩
instance:aW 285 (∀p0 r (h:uN p0=some r),Sc 285 [aX (M.aE.en p0)] [rB r]):=⟨λp0 r h=>by unfold uN at h;exact sgo 23 [.tmp 2] Tryz.func285⟩
instance aBf:aW 401 (∀p0 r (h:fT p0=some r),Sc 401 [aX (M.aC.en p0)] [rW 5 1 enB r]):=⟨λp0 r h=>by
 have i1:=Mt [.t 3 7050000 5 1] λm s=>∃af:Int,∃aa:List Int,∃ae:Nat,(s.t 3=vR 7050000 ae/\s.t 15=vL M.Field.en p0.aJq/\s.t 16=vI (List.length p0.aJq:Int)/\s.t 17=vI af/\s.h 7050000=(ae,oW 5 1 enB aa))/\dA p0 m af aa=some r
 have e1:=@dA.eq_2
 unfold fT at h
 exact sgo 31 [.tmp 2] Tryz.func401⟩
instance:aW 474 (∀p0 r (h:tZ p0=some r),Sc 474 [aX (M.aD.en p0)] [rI r]):=⟨λp0 r h=>by
 have i1:=inv λm s=>∃v3:Int,∃v9:Int,(s.t 3=vI v3/\s.t 7=vL M.aJt.en p0.aJm/\s.t 8=vI (List.length p0.aJm:Int)/\s.t 9=vI v9)/\kR p0 m v3 v9=some r
 have e1:=@kR.eq_2
 unfold tZ at h
 exact sgo 26 [.tmp 2] Tryz.func474⟩
instance:aW 143 (∀p0 r (h:uV p0=some r),Sc 143 [aX (M.aP.en p0)] [rB r]):=⟨λp0 r h=>by
 have i1:=inv λm s=>∃v10:Int,(s.t 1=vP 1 1 0/\s.t 8=vL M.eO.en p0.aJ3/\s.t 9=vI (List.length p0.aJ3:Int)/\s.t 10=vI v10/\s.h 1=(1,oX 43 (M.aP.en p0)))/\fO p0 m v10=some r
 have e1:=@fO.eq_2
 have i2:=λ(v10:Int) (x8:M.eO) (ae:Int->Option Bool) (s1:St)=>inv λm s=>∃aa:Int,(s.t 1=vP 1 1 0/\s.t 4=vP 4 ((s1.h 4).1+1) 0/\s.t 8=vL M.eO.en p0.aJ3/\s.t 9=vI (List.length p0.aJ3:Int)/\s.t 10=vI v10/\s.t 28=vL M.eO.en (List.take v10.toNat p0.aJ3)/\s.t 29=vI (List.length (List.take v10.toNat p0.aJ3):Int)/\s.t 30=vI aa/\s.h 1=(1,oX 43 (M.aP.en p0))/\s.h 4=((s1.h 4).1+1,oX 144 (M.eO.en x8)))/\cX p0 v10 x8 ae m aa=some r
 have e2:=@cX.eq_2
 unfold uV at h
 exact sgo 64 [.tmp 2] Tryz.func143⟩
instance:aW 144 (∀p0 r (h:zJ p0=some r),Sc 144 [aX (M.bD.en p0)] [rB r]):=⟨λp0 r h=>by
 have i1:=inv λm s=>∃v8:Int,(s.t 1=vP 1 1 0/\s.t 6=vL M.aJ.en p0.aJ/\s.t 7=vI (List.length p0.aJ:Int)/\s.t 8=vI v8/\s.h 1=(1,oX 91 (M.bD.en p0)))/\rH p0 m v8=some r
 have e1:=@rH.eq_2
 unfold zJ at h
 exact sgo 48 [.tmp 2] Tryz.func144⟩
instance:aW 146 (∀p0 r (h:zB p0=some r),Sc 146 [aX (M.aJr.en p0)] [rB r]):=⟨λp0 r h=>by
 have i1:=inv λm s=>∃v8:Int,(s.t 1=vP 1 1 0/\s.t 6=vL enS p0.aKJ/\s.t 7=vI (List.length p0.aKJ:Int)/\s.t 8=vI v8/\s.h 1=(1,oX 151 (M.aJr.en p0)))/\kP p0 m v8=some r
 have e1:=@kP.eq_2
 unfold zB at h
 exact sgo 45 [.tmp 2] Tryz.func146⟩
instance:aW 148 (∀p0 r (h:Bs p0=some r),Sc 148 [aX (M.aJv.en p0)] [rB r]):=⟨λp0 r h=>by
 have i1:=inv λm s=>∃v10:Int,(s.t 1=vP 1 1 0/\s.t 8=vL M.aK.en p0.aK/\s.t 9=vI (List.length p0.aK:Int)/\s.t 10=vI v10/\s.h 1=(1,oX 156 (M.aJv.en p0)))/\gR p0 m v10=some r
 have e1:=@gR.eq_2
 have i2:=inv λm s=>∃aa:Int,(s.t 1=vP 1 1 0/\s.t 43=vL M.aY.en p0.aKH/\s.t 44=vI (List.length p0.aKH:Int)/\s.t 45=vI aa/\s.h 1=(1,oX 156 (M.aJv.en p0)))/\kC p0 m aa=some r
 have e2:=@kC.eq_2
 unfold Bs at h
 exact sgo 68 [.tmp 2] Tryz.func148⟩
instance:aW 150 (∀p0 p1 r (h:rQ p0 p1=some r),Sc 150 [aX (M.Instr.en p0),aI p1] [rB r]):=⟨λp0 p1 r h=>by
 unfold rQ at h
 simp only[EN]
 refine sgn 94 [.tmp 4] Tryz.func150 λbase wd => ?_
 refine sq (rn ?_)
 refine an (sq ?_)
 obtain⟨x1,h2,h⟩:=bind_some h
 refine Fk (λs=>s.t 1=vI p1/\s.t 2=vP 2 1 0/\s.t 30=vB x1/\s.h 2=(1,oX 197 (M.Instr.en p0))/\True) ?_ ?_
 ·replace h:=h2;clear h2;obtain⟨x8,h9,h⟩:=bind_some h;rcases cM (!x8)with ae | ae;(replace h:=bK ae h;refine rn1 (Qw.1 _ _ _ _ h9) ?_;cases h;refine jX ⟨?_,?_,?_,?_,trivial⟩<;>(try simp +decide only[F,reduceIte,Nat.reduceAdd,qB,qC,EN, *,-h]));replace h:=bJ ae h;obtain⟨bt,aa,h⟩:=bind_some h;rcases cM (!bt)with af | af;(replace h:=bK af h;refine rn2 (Qw.1 _ _ _ _ h9) (Qw.1 _ _ _ _ aa) ?_;cases h;refine jX ⟨?_,?_,?_,?_,trivial⟩<;>(try simp +decide only[F,reduceIte,Nat.reduceAdd,qB,qC,EN, *,-h]));replace h:=bJ af h;rcases cM (p0.aJz==4)with ah | ah;(replace h:=bK ah h;refine rn2 (Qw.1 _ _ _ _ h9) (Qw.1 _ _ _ _ aa) ?_;cases h;refine jX ⟨?_,?_,?_,?_,trivial⟩<;>(try simp +decide only[F,reduceIte,Nat.reduceAdd,qB,qC,EN, *,-h]));replace h:=bJ ah h;rcases cM (p0.aJz==9)with ai | ai;(replace h:=bK ai h;refine rn2 (Qw.1 _ _ _ _ h9) (Qw.1 _ _ _ _ aa) ?_;cases h;refine jX ⟨?_,?_,?_,?_,trivial⟩<;>(try simp +decide only[F,reduceIte,Nat.reduceAdd,qB,qC,EN, *,-h]));replace h:=bJ ai h;refine rn2 (Qw.1 _ _ _ _ h9) (Qw.1 _ _ _ _ aa) ?_;cases h;refine jX ⟨?_,?_,?_,?_,trivial⟩<;>(try simp +decide only[F,reduceIte,Nat.reduceAdd,qB,qC,EN, *,-h])
 clear h2
 rintro s3 f4
 rcases cM x1 with aj | aj
 ·replace h:=bK aj h;refine ct (sq (rn ?_));refine an (rt ?_);cases h;simp[Ret,TB,EN, *]
 replace h:=bJ aj h
 refine cf (sk (an ?_))
 obtain⟨bm,ak,h⟩:=bind_some h
 refine Fk (λs=>s.t 1=vI p1/\s.t 2=vP 2 1 0/\s.t 5=vB bm/\s.h 2=(1,oX 197 (M.Instr.en p0))/\True) ?_ ?_
 ·replace h:=ak;clear ak;rcases cM (p0.aJz==5)with al | al;(replace h:=bK al h;refine rn ?_;cases h;refine jX ⟨?_,?_,?_,?_,trivial⟩<;>(try simp +decide only[F,reduceIte,Nat.reduceAdd,qB,qC,EN, *,-h]));replace h:=bJ al h;rcases cM (p0.aJz==6)with ao | ao;(replace h:=bK ao h;refine rn ?_;cases h;refine jX ⟨?_,?_,?_,?_,trivial⟩<;>(try simp +decide only[F,reduceIte,Nat.reduceAdd,qB,qC,EN, *,-h]));replace h:=bJ ao h;rcases cM (p0.aJz==7)with aq | aq;(replace h:=bK aq h;refine rn ?_;cases h;refine jX ⟨?_,?_,?_,?_,trivial⟩<;>(try simp +decide only[F,reduceIte,Nat.reduceAdd,qB,qC,EN, *,-h]));replace h:=bJ aq h;refine rn ?_;cases h;refine jX ⟨?_,?_,?_,?_,trivial⟩<;>(try simp +decide only[F,reduceIte,Nat.reduceAdd,qB,qC,EN, *,-h])
 clear ak
 rintro cc f20
 refine sq ?_
 obtain⟨bn,ar,h⟩:=bind_some h
 refine Fk (λs=>s.t 1=vI p1/\s.t 2=vP 2 1 0/\s.t 64=vB bn/\s.h 2=(1,oX 197 (M.Instr.en p0))/\True) ?_ ?_
 ·replace h:=ar;clear ar;rcases GH bm with av | av;(replace h:=bJ av h;refine rn ?_;cases h;refine jX ⟨?_,?_,?_,?_,trivial⟩<;>(try simp +decide only[F,reduceIte,Nat.reduceAdd,qB,qC,EN, *,-h]));replace h:=bK av h;obtain⟨bu,bo,h⟩:=bind_some h;rcases cM (!bu)with aw | aw;(replace h:=bK aw h;refine rn1 (aAV.1 _ _ bo) ?_;cases h;refine jX ⟨?_,?_,?_,?_,trivial⟩<;>(try simp +decide only[F,reduceIte,Nat.reduceAdd,qB,qC,EN, *,-h]));replace h:=bJ aw h;refine rn1 (aAV.1 _ _ bo) ?_;cases h;refine jX ⟨?_,?_,?_,?_,trivial⟩<;>(try simp +decide only[F,reduceIte,Nat.reduceAdd,qB,qC,EN, *,-h])
 clear ar
 rintro cd f30
 rcases cM bn with ax | ax
 ·replace h:=bK ax h;refine ct (sq (rn ?_));refine an (rt ?_);cases h;simp[Ret,TB,EN, *]
 replace h:=bJ ax h
 refine cf (sk (an (sq (sq (rn ?_)))))
 refine an (bk (sq (rn ?_)))
 refine an ?_
 rcases cM (p0.aJz==1)with ay | ay
 ·replace h:=bK ay h;refine ct (sq ?_);obtain⟨cg,bw,h⟩:=bind_some h;refine rn1 (Qw.1 _ _ _ _ bw) ?_;refine an (rt ?_);cases h;simp[Ret,TB,EN, *]
 replace h:=bJ ay h
 refine cf (sq (rn ?_))
 refine an ?_
 rcases cM (p0.aJz==2)with az | az
 ·replace h:=bK az h;refine ct (sq ?_);obtain⟨cj,bz,h⟩:=bind_some h;refine rn1 (Qw.1 _ _ _ _ bz) ?_;refine an (rt ?_);cases h;simp[Ret,TB,EN, *]
 replace h:=bJ az h
 refine cf ?_
 obtain⟨bq,ba,h⟩:=bind_some h
 refine Fk (λs=>s.t 1=vI p1/\s.t 2=vP 2 1 0/\s.t 66=vI p0.aJz/\s.t 77=vB bq/\s.h 2=(1,oX 197 (M.Instr.en p0))/\True) ?_ ?_
 ·replace h:=ba;clear ba;refine sq (rn ?_);refine an ?_;rcases cM (p0.aJz==3)with bd | bd;(replace h:=bK bd h;refine ct (sk ?_);cases h;refine jX ⟨?_,?_,?_,?_,?_,trivial⟩<;>(try simp +decide only[F,reduceIte,Nat.reduceAdd,qB,qC,EN, *,-h]));replace h:=bJ bd h;refine cf (rn ?_);cases h;refine jX ⟨?_,?_,?_,?_,?_,trivial⟩<;>(try simp +decide only[F,reduceIte,Nat.reduceAdd,qB,qC,EN, *,-h])
 clear ba
 rintro ck f48
 rcases cM bq with bf | bf
 ·replace h:=bK bf h;refine ct (sq ?_);obtain⟨cn,c5,h⟩:=bind_some h;refine rn1 (Qw.1 _ _ _ _ c5) ?_;refine an (rt ?_);cases h;simp[Ret,TB,EN, *]
 replace h:=bJ bf h
 refine cf ?_
 obtain⟨br,bg,h⟩:=bind_some h
 refine Fk (λs=>s.t 2=vP 2 1 0/\s.t 84=vB br/\s.h 2=(1,oX 197 (M.Instr.en p0))/\True) ?_ ?_
 ·replace h:=bg;clear bg;refine sq (rn ?_);refine an ?_;rcases cM (p0.aJz==6)with bh | bh;(replace h:=bK bh h;refine ct (sk ?_);cases h;refine jX ⟨?_,?_,?_,trivial⟩<;>(try simp +decide only[F,reduceIte,Nat.reduceAdd,qB,qC,EN, *,-h]));replace h:=bJ bh h;refine cf (sq (rn ?_));refine an ?_;rcases cM (p0.aJz==7)with bj | bj;(replace h:=bK bj h;refine ct (sk ?_);cases h;refine jX ⟨?_,?_,?_,trivial⟩<;>(try simp +decide only[F,reduceIte,Nat.reduceAdd,qB,qC,EN, *,-h]));replace h:=bJ bj h;refine cf (rn ?_);cases h;refine jX ⟨?_,?_,?_,trivial⟩<;>(try simp +decide only[F,reduceIte,Nat.reduceAdd,qB,qC,EN, *,-h])
 clear bg
 rintro cq f60
 rcases GH br with bl | bl
 ·replace h:=bJ bl h;refine cf (sk (ab (an (sq (rn ?_)))));refine an (rt ?_);cases h;simp[Ret,TB,EN, *]
 replace h:=bK bl h
 refine ct (sq ?_)
 obtain⟨cr,ca,h⟩:=bind_some h
 refine rn1 (Qw.1 _ _ _ _ ca) ?_
 refine an (rt ?_)
 cases h
 simp[Ret,TB,EN, *]⟩
instance:aW 49 (∀p0 r (h:cY p0=some r),Sc 49 [aX (M.aJn.en p0)] [(true,M.aJn.rs r.1),(true,M.Ask.rs r.2)]):=⟨λp0 r h=>by
 have i1:=λ(x1:M.aJn)=>inv λm s=>∃aa:Int,∃ae:Int,∃r7:List Int,(s.t 2=vP 2 1 0/\s.t 3=vP 3 1 0/\s.t 4=vP 4 1 0/\s.h 2=(1,aCi)/\s.h 3=(1,Z6)/\s.h 4=(1,oB 89 [.row 100007 1,cI aa,.row 300007 1,cI ae,cB x1.aKb,cB x1.aKY])/\s.h 100007=(1,oW 197 4 M.Instr.en x1.aKD)/\s.h 300007=(1,oW 3 1 enI r7))/\dB x1 m aa ae r7=some r
 have e1:=@dB.eq_2
 unfold cY at h
 exact sgo 177 [.cell 2 89,.cell 3 102] Tryz.func49⟩
instance:aW 379 (∀p0 p1 r (h:rL p0 p1=some r),Sc 379 [aX (M.aJr.en p0),aI p1] [rB r]):=⟨λp0 p1 r h=>by unfold rL at h;exact sgo 24 [.tmp 4] Tryz.func379⟩
instance:aW 483 (∀p0 p1 r (h:uC p0 p1=some r),Sc 483 [aI p0,aL enI p1] [rI r]):=⟨λp0 p1 r h=>by unfold uC at h;exact sgo 13 [.tmp 4] Tryz.func483⟩
instance:aW 484 (∀p0 p1 r (h:iS p0 p1=some r),Sc 484 [aI p0,aS p1] [rI r]):=⟨λp0 p1 r h=>by unfold iS at h;exact sgo 14 [.tmp 4] Tryz.func484⟩
instance:aW 381 (∀p0 p1 p2 r (h:D8 p0 p1 p2=some r),Sc 381 [aX (M.aJr.en p0),aS p1,aI p2] [rW 5 1 enB r]):=⟨λp0 p1 p2 r h=>by
 have i1:=λ(x5:Int)=>inv λm s=>∃v9:Int,∃aa:List Int,∃ae:Nat,(s.t 7=vI x5/\s.t 8=vR 100019 ae/\s.t 9=vI v9/\s.h 100019=(ae,oW 5 1 enB aa))/\fD x5 m v9 aa=some r
 have e1:=@fD.eq_2
 unfold D8 at h
 exact sgo 33 [.tmp 6] Tryz.func381⟩
instance:aW 51 (∀p0 p1 p2 r (h:BA p0 p1 p2=some r),Sc 51 [aX (M.bD.en p0),aS p1,aX (M.aJo.en p2)] [(true,M.bD.rs r.1),rB r.2]):=⟨λp0 p1 p2 r h=>by unfold BA at h;exact sgo 43 [.cell 6 91,.tmp 7] Tryz.func51⟩
instance:aW 384 (∀p0 p1 r (h:yH p0 p1=some r),Sc 384 [aI p0,aL enB p1] [rI r]):=⟨λp0 p1 r h=>by unfold yH at h;exact sgo 11 [.tmp 4] Tryz.func384⟩
theorem aJW(p0 r)(h:CG p0=some r):Sc 267 [aL enB p0] [rW 58 1 (enL enB) r.1,rI r.2]:=by
 have i1:=inv λm s=>∃I:Int,∃j:List (List Int),∃C:Nat,(s.t 0=vL enB p0/\s.t 4=vR 100012 C/\s.t 5=vI I/\s.h 100012=(C,oW 58 1 (enL enB) j))/\sD p0 m I j=some r
 have e1:=@sD.eq_2
 unfold CG at h
 exact sgo 48 [.tmp 2,.tmp 3] Tryz.func267
theorem aJU(p0 r)(h:uP p0=some r):Sc 385 [aL enB p0] [(true,M.Key.rs r.1),rB r.2]:=by
 have i1:=λ(x2:Int)=>inv λm s=>∃j:Int,∃v30:Int,(s.t 0=vL enB p0/\s.t 2=vP 2 1 0/\s.t 4=vP 4 1 0/\s.t 5=vL enB (List.drop (1:Int).toNat p0)/\s.t 6=vI j/\s.t 28=vL enB (List.take (6:Int).toNat (List.drop (1:Int).toNat p0))/\s.t 29=vI (List.length (List.take (6:Int).toNat (List.drop (1:Int).toNat p0)):Int)/\s.t 30=vI v30/\s.h 2=(1,oB 216 [cI 0,cI 0,cS (⟨#[]⟩:ByteArray)])/\s.h 4=(1,oB 216 [cI (i64.wrap x2),cI 0,cS (⟨#[]⟩:ByteArray)]))/\kW p0 x2 m j v30=some r
 have e1:=@kW.eq_2
 unfold uP at h
 exact sgo 55 [.cell 2 216,.tmp 3] Tryz.func385
theorem aIn(p0 r)(h:oD p0=some r):Sc 386 [aL enB p0] [(true,M.aC.rs r.1),rB r.2]:=by
 have i1:=λ(x1:(Int×Int×Bool))=>Mt [.b 7 0 7050000 322 2] λm s=>∃I:Int,∃J:Int,∃j:List M.Field,∃C:Nat,(s.t 0=vL enB p0/\s.t 2=vP 2 1 0/\s.t 4=vI x1.1/\s.t 5=vI I/\s.t 7=vP 7 1 0/\s.t 8=vI J/\s.h 2=(1,oB 207 [.nil])/\s.h 7=(1,oB 207 [.row 7050000 C])/\s.h 7050000=(C,oW 322 2 M.Field.en j))/\gK p0 x1 m I J j=some r
 have e1:=@gK.eq_2
 unfold oD at h
 exact sgo 72 [.cell 2 207,.tmp 3] Tryz.func386
instance aA7:aW 488 (∀p0 r (h:Ep p0=some r),Sc 488 [aX (M.Op.en p0)] [rB r]):=⟨λp0 r h=>by unfold Ep at h;exact sgo 39 [.tmp 2] Tryz.func488⟩
theorem aIZ(p0 r)(h:DJ p0=some r):Sc 398 [aL M.Op.en p0] [rB r]:=by
 have i1:=inv λm s=>∃j:Int,(s.t 0=vL M.Op.en p0/\s.t 5=vL M.Op.en p0/\s.t 6=vI (List.length p0:Int)/\s.t 7=vI j)/\uF p0 m j=some r
 have e1:=@uF.eq_2
 unfold DJ at h
 exact sgo 18 [.tmp 2] Tryz.func398
instance aAf:aW 408 (∀p0 p1 p2 r (h:iJ p0 p1 p2=some r),Sc 408 [aX (M.aD.en p0),aX (M.Key.en p1),aX (M.aC.en p2)] [(true,M.aD.rs r.1),rB r.2]):=⟨λp0 p1 p2 r h=>by
 have i1:=λ(aa:M.aD)=>inv λm s=>∃v10:Int,(s.t 3=vP 3 1 0/\s.t 4=vP 4 1 0/\s.t 5=vP 5 1 0/\s.t 6=vP 6 1 0/\s.t 8=vP 8 1 0/\s.t 10=vI v10/\s.h 3=(1,oX 75 (M.aD.en p0))/\s.h 4=(1,oX 216 (M.Key.en p1))/\s.h 5=(1,oX 207 (M.aC.en p2))/\s.h 6=(1,oB 75 [cS (⟨#[]⟩:ByteArray),.nil,cI 0])/\s.h 8=(1,oB 75 [cS aa.Name,.row 200022 1,cI aa.aKG])/\s.h 200022=(1,oW 320 4 M.aJt.en aa.aJm))/\oC p0 p1 p2 aa m v10=some r
 have e1:=@oC.eq_2
 unfold iJ at h
 exact sgo 87 [.cell 6 75,.tmp 7] Tryz.func408⟩
instance:aW 590 (∀p0 p1 r (h:zU p0 p1=some r),Sc 590 [aX (M.Key.en p0),aX (M.dF.en p1)] [rB r]):=⟨λp0 p1 r h=>by unfold zU at h;exact sgo 50 [.tmp 4] Tryz.func590⟩
theorem aD1(p0 c0 r)(h:iY p0 c0=some r):Sc 589 [aX (M.aJt.en p0),(false,[.ptr [.bool c0.aKg,.bool c0.aKV,.int .i64 c0.Low.aJz,.int .i64 c0.Low.N,.str c0.Low.aKA,.int .i64 c0.aKZ.aJz,.int .i64 c0.aKZ.N,.str c0.aKZ.aKA]])] [rB r]:=by unfold iY at h;exact sgo 8 [.tmp 3] Tryz.func589
theorem aEO(p0 p1 r)(h:pM p0 p1=some r):Sc 555 [aX (M.aD.en p0),aX (M.dF.en p1)] [(true,M.aD.ra r.1),rI r.2]:=by
 unfold pM at h
 simp only[EN]
 refine sgn 26 [.cell 4 75,.tmp 5] Tryz.func555 λbase wd => ?_
 refine sq ?_
 apply iT
 ·simp +decide only[LN,LI,E,reduceIte,Nat.reduceAdd,Nat.reduceMul,qB,qC,L,SF,EN];exact Is.mk _
 refine an (sq ?_)
 obtain⟨x1,h2,h⟩:=bind_some h
 apply iT
 ·simp +decide only[LN,LI,E,reduceIte,Nat.reduceAdd,Nat.reduceMul,qB,qC,L,SF,EN]
  refine⟨_,aCf.1 _ _ h2,?_⟩
  try simp +decide only[LN,LI,E,reduceIte,Nat.reduceAdd,Nat.reduceMul,qB,qC,L,SF,EN]
  exact Is.mk _
 refine an (sq (sq ?_))
 obtain⟨x3,h4,h⟩:=bind_some h
 apply iT
 ·simp +decide only[LN,LI,E,reduceIte,Nat.reduceAdd,Nat.reduceMul,qB,qC,L,SF,EN]
  refine⟨_,aCl.1 _ _ h4,?_⟩
  try simp +decide only[LN,LI,E,reduceIte,Nat.reduceAdd,Nat.reduceMul,qB,qC,L,SF,EN]
  exact Is.mk _
 refine an ?_
 rcases cM (!x3)with b5 | b5
 ·replace h:=bK b5 h;refine Fz (by simp +decide only[LN,LI,F,reduceIte,Nat.reduceAdd,qB,qC,EN,b5]) ?_;refine sq ?_;apply iT;(simp +decide only[LN,LI,E,reduceIte,Nat.reduceAdd,Nat.reduceMul,qB,qC,L,SF,EN,b5];exact Is.mk _);refine an (frb 4 1 200008 ?_);refine rt ?_;cases h;simp[Ret,LN,LI,EN,SF,M.aJt.en,b5]
 replace h:=bJ b5 h
 refine Gb (by simp +decide only[LN,LI,F,reduceIte,Nat.reduceAdd,qB,qC,EN,b5]) ?_
 refine sk (an (sq ?_))
 apply U2 (n:=3) (f:=588) (d:=16) (N':=42) (vars:=[.tmp 4]) rfl rfl rfl rfl jG Tryz.func588 rfl rfl rfl jH jG
 ·simp +decide only[LN,LI,E,reduceIte,Nat.reduceAdd,Nat.reduceMul,qB,qC,L,S5,SF,EN,b5];exact Is.mk _
 intro fv
 refine Iz (Gho.shallow (i:=200008) (ver:=1) (e:=320) (sz:=4) (xs:=List.map M.aJt.en x1.aJm) (by first | (simp +decide only[LN,LI,F,reduceIte,Nat.reduceAdd,qB,qC,EN,M.aJt.en,b5];done)| (simp +decide only[LN,LI,F,reduceIte,Nat.reduceAdd,qB,qC,EN,M.aJt.en,b5];rfl)| rfl)) ?_
 refine Eo (J:=λs=>s.t 0=vR 200008 1/\s.t 1 = .v false [.clo 589 [(3,1,0)]]/\s.fr 2=vP 2 1 0/\s.fr 4=vP 4 1 0/\s.fr 6=vP 6 1 0/\s.h 2=(1,oX 75 (M.aD.en p0))/\s.h 3=(1,oX 550 (M.dF.en p1))/\s.h 4=(1,oB 75 [cS (⟨#[]⟩:ByteArray),.nil,cI 0])/\s.h 6=(1,oB 75 [cS x1.Name,.row 200008 1,cI x1.aKG])/\s.h 200008=(1,.row 320 4 (List.map M.aJt.en x1.aJm) false)/\True) ?_ ?_
 ·and_intros<;>(try first | (simp +decide only[LN,LI,F,reduceIte,Nat.reduceAdd,qB,qC,EN,M.aJt.en,b5];done)| (simp +decide only[LN,LI,F,reduceIte,Nat.reduceAdd,qB,qC,EN,M.aJt.en,b5];rfl)| rfl)
 rintro s6 f7
 refine sq ?_
 apply iT
 ·simp +decide only[LN,LI,E,reduceIte,Nat.reduceAdd,Nat.reduceMul,qB,qC,L,EN, *,-h];exact Is.mk _
 refine an (sq ?_)
 obtain⟨af,ak,h⟩:=bind_some h
 apply iT
 ·simp +decide only[LN,LI,E,reduceIte,Nat.reduceAdd,Nat.reduceMul,qB,qC,L,EN, *,-h]
  refine⟨_,aHW x1.aJm (λz0=>iY z0 p1) 589 [.ptr [.bool p1.aKg,.bool p1.aKV,.int .i64 p1.Low.aJz,.int .i64 p1.Low.N,.str p1.Low.aKA,.int .i64 p1.aKZ.aJz,.int .i64 p1.aKZ.N,.str p1.aKZ.aKA]] (λz0 r hr=>aD1 z0 p1 r hr) af ak,?_⟩
  try simp +decide only[LN,LI,E,reduceIte,Nat.reduceAdd,Nat.reduceMul,qB,qC,L,EN, *,-h]
  exact Is.mk _
 refine an (sq (sq ?_))
 apply iT
 ·simp +decide only[LN,LI,E,reduceIte,Nat.reduceAdd,Nat.reduceMul,qB,qC,L,EN, *,-h];exact Is.mk _
 refine an ?_
 rcases cM (af==(-1))with ae | ae
 ·replace h:=bK ae h;refine Fz (by simp +decide only[LN,LI,F,reduceIte,Nat.reduceAdd,qB,qC,EN, *,-h]) ?_;refine sq ?_;apply iT;(simp +decide only[LN,LI,E,reduceIte,Nat.reduceAdd,Nat.reduceMul,qB,qC,L,EN, *,-h];exact Is.mk _);refine an (rt ?_);apply aAI.mk (l:=[(false,[.row 200008 1])]) (by simp[LN,LI,EN,b5,f7,ae]);(simp +decide only[VR,LN,LI,E,reduceIte,Nat.reduceAdd,Nat.reduceMul,qB,qC,L,S5,SF,EN, *,-h];exact Is.mk _);refine an (sq ?_);apply K6 mixed;(simp +decide only[LN,LI,E,reduceIte,Nat.reduceAdd,Nat.reduceMul,qB,qC,L,S5,SF,EN, *,-h];exact⟨.mk jH,Is.mk _⟩);refine an (frb 4 1 200008 ?_);refine rt ?_;cases h;simp[Ret,LN,LI,EN,SF,M.aJt.en, *]
 replace h:=bJ ae h
 refine Gb (by simp +decide only[LN,LI,F,reduceIte,Nat.reduceAdd,qB,qC,EN, *,-h]) ?_
 refine sk (an (sq (sq ?_)))
 apply iT
 ·simp +decide only[LN,LI,E,reduceIte,Nat.reduceAdd,Nat.reduceMul,qB,qC,L,EN, *,-h];exact Is.mk _
 refine an (bk ?_)
 refine GJ (λm s=>∃C:Int,∃v6:Int,∃U:List M.aJt,s.t 0=vR 200008 1/\s.t 1 = .v false [.clo 589 [(3,1,0)]]/\s.t 5=vI C/\s.t 6=vI v6/\s.fr 2=vP 2 1 0/\s.fr 4=vP 4 1 0/\s.fr 6=vP 6 1 0/\s.h 2=(1,oX 75 (M.aD.en p0))/\s.h 3=(1,oX 550 (M.dF.en p1))/\s.h 4=(1,oB 75 [cS (⟨#[]⟩:ByteArray),.nil,cI 0])/\s.h 6=(1,oB 75 [cS x1.Name,.row 200008 1,cI x1.aKG])/\s.h 200008=(1,.row 320 4 (List.map M.aJt.en U) false)/\eI p0 p1 x1 m C v6 U=some r) fuel ?_ ?_
 ·refine⟨af,i64.wrap (af+1),x1.aJm,?_,?_,?_,?_,?_,?_,?_,?_,?_,?_,?_,?_,h⟩;all_goals simp +decide only[LN,LI,F,reduceIte,Nat.reduceAdd,qB,qC,EN,M.aJt.en, *,-h]
 rintro mL1 av ⟨C,v6,U,f21,f22,f23,f24,f25,f26,f27,f28,f29,f30,f31,f32,h⟩
 rcases mL1 with _ | mL1
 ·exact absurd h (by simp[eI])
 simp only[eI]at h
 refine sq (sq ?_)
 apply iT
 ·simp +decide only[LN,LI,E,reduceIte,Nat.reduceAdd,Nat.reduceMul,qB,qC,L,S5,EN, *,-h];exact Is.mk _
 refine an ?_
 rcases cM (decide (v6<(List.length U:Int)))with ah | ah
 ·replace h:=bK ah h
  refine Fz (by simp +decide only[LN,LI,F,reduceIte,Nat.reduceAdd,qB,qC,EN, *,-h]) ?_
  refine sk (an (sq (bk (sq ?_))))
  obtain⟨aj,al,h⟩:=bind_some h
  obtain⟨aw,ax,ay⟩:=aU al
  apply iT
  ·simp +decide only[LN,LI,E,reduceIte,Nat.reduceAdd,Nat.reduceMul,qB,qC,L,S5,Ox,M.aJt.en,EN, *,-h];exact Is.mk _
  refine an (sq ?_)
  obtain⟨ao,aq,h⟩:=bind_some h
  apply iT
  ·simp +decide only[LN,LI,E,reduceIte,Nat.reduceAdd,Nat.reduceMul,qB,qC,L,Ox,EN, *,-h]
   refine⟨_,aD1 _ _ _ aq,?_⟩
   try simp +decide only[LN,LI,E,reduceIte,Nat.reduceAdd,Nat.reduceMul,qB,qC,L,Ox,EN, *,-h]
   exact Is.mk _
  refine an ?_
  rcases GH (!ao)with ai | ai
  ·replace h:=bJ ai h;refine Gb (by simp +decide only[LN,LI,F,reduceIte,Nat.reduceAdd,qB,qC,EN, *,-h]) ?_;refine sk (ab (an ?_));apply iT;(simp +decide only[LN,LI,E,reduceIte,Nat.reduceAdd,Nat.reduceMul,qB,qC,L,EN, *,-h];exact Is.mk _);refine jX ⟨mL1,jD,C,i64.wrap (v6+1),U,?_,?_,?_,?_,?_,?_,?_,?_,?_,?_,?_,?_,h⟩;all_goals simp +decide only[LN,LI,F,reduceIte,Nat.reduceAdd,qB,qC,EN,M.aJt.en, *,-h]
  replace h:=bK ai h
  refine Fz (by simp +decide only[LN,LI,F,reduceIte,Nat.reduceAdd,qB,qC,EN, *,-h]) ?_
  refine sq ?_
  obtain⟨az,ar,h⟩:=bind_some h
  obtain⟨ba,bd,bf⟩:=aU ar
  apply iT
  ·simp +decide only[LN,LI,E,reduceIte,Nat.reduceAdd,Nat.reduceMul,qB,qC,L,S5,Ox,M.aJt.en,EN, *,-h];exact Is.mk _
  refine an ?_
  refine Eo (J:=λs=>s.t 0=vR 200008 1/\s.t 1 = .v false [.clo 589 [(3,1,0)]]/\s.t 5=vI C/\s.t 6=vI v6/\s.fr 2=vP 2 1 0/\s.fr 4=vP 4 1 0/\s.fr 6=vP 6 1 0/\s.h 2=(1,oX 75 (M.aD.en p0))/\s.h 3=(1,oX 550 (M.dF.en p1))/\s.h 4=(1,oB 75 [cS (⟨#[]⟩:ByteArray),.nil,cI 0])/\s.h 6=(1,oB 75 [cS x1.Name,.row 200008 1,cI x1.aKG])/\s.h 200008=(1,.row 320 4 (List.map M.aJt.en (List.set U C.toNat aj)) false)/\True) ?_ ?_
  ·and_intros<;>(try simp +decide only[LN,LI,F,reduceIte,Nat.reduceAdd,qB,qC,EN,M.aJt.en, *,-h])
  rintro bg f48
  apply iT
  ·simp +decide only[LN,LI,E,reduceIte,Nat.reduceAdd,Nat.reduceMul,qB,qC,L,EN, *,-h];exact Is.mk _
  refine ab (an ?_)
  apply iT
  ·simp +decide only[LN,LI,E,reduceIte,Nat.reduceAdd,Nat.reduceMul,qB,qC,L,EN, *,-h];exact Is.mk _
  refine jX ⟨mL1,jD,i64.wrap (C+1),i64.wrap (v6+1),List.set U C.toNat aj,?_,?_,?_,?_,?_,?_,?_,?_,?_,?_,?_,?_,h⟩
  all_goals simp +decide only[LN,LI,F,reduceIte,Nat.reduceAdd,qB,qC,EN,M.aJt.en, *,-h]
 replace h:=bJ ah h
 refine Gb (by simp +decide only[LN,LI,F,reduceIte,Nat.reduceAdd,qB,qC,EN, *,-h]) ?_
 refine xt (E2 (EW (IA (an (sq ?_)))))
 obtain⟨bh,I,h⟩:=bind_some h
 apply iT
 ·simp +decide only[LN,LI,E,reduceIte,Nat.reduceAdd,Nat.reduceMul,qB,qC,<-List.map_take,<-List.map_drop,L,S5,Ox,M.aJt.en,EN, *,-h]
  refine⟨by first | exact Ob I | exact(Ob I).2 | exact(Ob I).2.2,?_⟩
  try simp +decide only[LN,LI,E,reduceIte,Nat.reduceAdd,Nat.reduceMul,qB,qC,<-List.map_take,<-List.map_drop,L,S5,Ox,M.aJt.en,EN, *,-h]
  refine⟨by first | exact PL I | exact(PL I).2 | exact(PL I).2.2 | (have hb:=PL I;simpa using hb),?_⟩
  try simp +decide only[LN,LI,E,reduceIte,Nat.reduceAdd,Nat.reduceMul,qB,qC,<-List.map_take,<-List.map_drop,L,S5,Ox,M.aJt.en,EN, *,-h]
  exact Is.mk _
 refine an (sq ?_)
 apply iT
 ·simp +decide only[LN,LI,E,reduceIte,Nat.reduceAdd,Nat.reduceMul,qB,qC,<-List.map_take,<-List.map_drop,L,S5,Ox,M.aJt.en,EN, *,-h]
  refine⟨by first | exact RA (f:=M.aJt.en) I | exact(RA (f:=M.aJt.en) I).2 | exact(RA (f:=M.aJt.en) I).2.2 | (have hb:=RA (f:=M.aJt.en) I;simpa using hb),?_⟩
  try simp +decide only[LN,LI,E,reduceIte,Nat.reduceAdd,Nat.reduceMul,qB,qC,<-List.map_take,<-List.map_drop,L,S5,Ox,M.aJt.en,EN, *,-h]
  exact Is.mk _
 refine an (rt ?_)
 apply aAI.mk (l:=[(false,[.part 200008 1 0 C.toNat])]) (by simp[LN,LI,EN,b5,ae,f21,f22,f23,f24,f25,f26,f27,f28,f29,f30,f31,f32,ah])
 ·simp +decide only[VR,LN,LI,E,reduceIte,Nat.reduceAdd,Nat.reduceMul,qB,qC,L,S5,SF,EN, *,-h];exact Is.mk _
 refine an (sq ?_)
 refine Iz (Gho.Z7 (b:=6) (vb:=1) (t:=75) (cells:=[.dat (.str x1.Name),.part 200008 1 0 C.toNat,.dat (.int .i64 x1.aKG)]) (c:=1) (j:=200008) (vj:=1) (K:=200008) (n:=C.toNat) (e:=320) (sz:=4) (dp:=false) (xs:=List.map M.aJt.en (List.take C.toNat U)++List.replicate (List.length U-C.toNat) [.opq,.opq,.opq,.opq]) (List.map M.aJt.en (List.take C.toNat U)) (by first | (simp +decide only[LN,LI,F,reduceIte,Nat.reduceAdd,qB,qC,EN, *,-h];done)| (simp +decide only[LN,LI,F,reduceIte,Nat.reduceAdd,qB,qC,EN, *,-h];rfl)| rfl) rfl (by first | (simp +decide only[LN,LI,F,reduceIte,Nat.reduceAdd,qB,qC,EN, *,-h];done)| (simp +decide only[LN,LI,F,reduceIte,Nat.reduceAdd,qB,qC,EN, *,-h];rfl)| rfl) jG ((RA (f:=M.aJt.en) I).2) (XU I)) ?_
 refine Eo (J:=λs=>s.t 2=vP 2 1 0/\s.t 4=vP 4 1 0/\s.t 6=vP 6 1 0/\s.h 2=(1,oX 75 (M.aD.en p0))/\s.h 4=(1,oB 75 [cS (⟨#[]⟩:ByteArray),.nil,cI 0])/\s.h 6=(1,oB 75 [cS x1.Name,.row 200008 2,cI x1.aKG])/\s.h 200008=(2,.row 320 4 (List.map M.aJt.en (List.take C.toNat U)) false)/\True) ?_ ?_
 ·and_intros<;>(try simp +decide only[LN,LI,F,reduceIte,Nat.reduceAdd,qB,qC,EN,M.aJt.en, *,-h])
 rintro bj f63
 apply K6 mixed
 ·simp +decide only[LN,LI,E,reduceIte,Nat.reduceAdd,Nat.reduceMul,qB,qC,L,S5,SF,EN, *,-h];exact⟨.mk jH,Is.mk _⟩
 refine an (frb 4 1 200008 ?_)
 refine rt ?_
 cases h
 simp[Ret,LN,LI,EN,SF,M.aJt.en, *]
instance aBA:aW 159 (∀p0 p1 p2 r (h:mH p0 p1 p2=some r),Sc 159 [aX (M.aC.en p0),aS p1,aI p2] [(true,M.aC.rs r.1),rB r.2]):=⟨λp0 p1 p2 r h=>by
 have i1:=λ(x1:M.aC)=>inv λm s=>∃v10:Int,(s.t 1=vS p1/\s.t 2=vI p2/\s.t 3=vP 3 1 0/\s.t 6=vP 6 1 0/\s.t 8=vP 8 1 0/\s.t 10=vI v10/\s.h 3=(1,oX 207 (M.aC.en p0))/\s.h 6=(1,oB 207 [.nil])/\s.h 8=(1,oB 207 [.row 100012 1])/\s.h 100012=(1,oW 322 2 M.Field.en x1.aJq))/\mP p0 p1 p2 x1 m v10=some r
 have e1:=@mP.eq_2
 unfold mH at h
 exact sgo 61 [.cell 6 207,.tmp 7] Tryz.func159⟩
instance:aW 278 (∀p0 p1 p2 r (h:Ac p0 p1 p2=some r),Sc 278 [aL enB p0,aI p1,aL enB p2] [rW 5 1 enB r.1,rB r.2]):=⟨λp0 p1 p2 r h=>by unfold Ac at h;exact sgo 26 [.tmp 6,.tmp 7] Tryz.func278⟩
instance:aW 282 (∀p0 p1 p2 p3 r (h:tA p0 p1 p2 p3=some r),Sc 282 [aX (M.aM.en p0),aX (M.Key.en p1),aS p2,aI p3] [(true,M.aM.rs r.1),rB r.2]):=⟨λp0 p1 p2 p3 r h=>by unfold tA at h;exact sgo 41 [.cell 8 78,.tmp 9] Tryz.func282⟩
