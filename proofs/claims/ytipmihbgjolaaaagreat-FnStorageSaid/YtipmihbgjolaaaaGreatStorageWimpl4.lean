/-
  Helper text. No conditions.
-/
import Derived.Test.YtipmihbgjolaaaaGreatStorageTi
import Derived.Test.YtipmihbgjolaaaaGreatStorageWimpl0
import Derived.Test.YtipmihbgjolaaaaGreatStorageWimpl1
import Derived.Test.YtipmihbgjolaaaaGreatStorageWimpl2
import Derived.Test.YtipmihbgjolaaaaGreatStorageWimpl3
import Derived.Test.YtipmihbgjolaaaaGreatStorageWlib
set_option linter.unusedVariables false
set_option linter.unusedSimpArgs false
namespace Go.Proofs.YtipmihbgjolaaaaGreat.gen
open Go Go.Sh
set_option maxRecDepth 20000
set_option maxHeartbeats 4000000
instance:bR 221 (∀p0 r (h:oY p0=some r),Sc 221 [aX (M.YY.en p0)] [(true,M.YY.rs r)]):=⟨λp0 r h=>by
 have i1:=CO [.b 3 2 7050000 40 3] λm s=>∃af:Int,∃aa:List M.aA,∃ae:Nat,(s.t 2=vP 2 1 0/\s.t 3=vP 3 1 0/\s.t 16=vL M.aA.en p0.Y5/\s.t 17=vI (List.length p0.Y5:Int)/\s.t 18=vI af/\s.h 2=(1,Hs)/\s.h 3=(1,oB 35 [cS p0.Name,cI p0.Y2,.row 7050000 ae,.row 100010 2])/\s.h 100010=(2,oW 282 2 M.aM.en p0.Za)/\s.h 7050000=(ae,oW 40 3 M.aA.en aa))/\fI p0 m af aa=some r
 have e1:=@fI.eq_2
 unfold oY at h
 exact sgo 31 [.cell 2 35] Tryz.func221⟩
instance:bR 128 (∀p0 r (h:uK p0=some r),Sc 128 [aX (M.bG.en p0)] [(true,M.bG.rs r)]):=⟨λp0 r h=>by unfold uK at h;exact sgo 12 [.cell 2 37] Tryz.func128⟩
instance:bR 129 (∀p0 r (h:rD p0=some r),Sc 129 [aX (M.aD.en p0)] [(true,M.aD.rs r)]):=⟨λp0 r h=>by unfold rD at h;exact sgo 12 [.cell 2 47] Tryz.func129⟩
instance:bR 226 (∀p0 r (h:rF p0=some r),Sc 226 [aX (M.YZ.en p0)] [rB r]):=⟨λp0 r h=>by
 unfold rF at h
 simp only[EN]
 refine sgn 37 [.tmp 2] Tryz.func226 λbase wd => ?_
 refine sq (rn ?_)
 refine an (sq (rn ?_))
 refine an (sq (sq (rn ?_)))
 refine an (bk ?_)
 refine cu (λs=>s.t 1=vP 1 1 0/\s.t 3=vI 0/\s.t 12=vR 100012 1/\s.t 13=vI ((3:Nat):Int)/\s.t 14=vI 0/\s.h 1=(1,oX 28 (M.YZ.en p0))/\s.h 100012=(1,oW 3 1 enI ([p0.Zv,p0.Zs,p0.Zm]))/\True) ?_
 rintro s1 f2
 refine Dk (λm s=>∃v3:Int,∃aa:Int,s.t 1=vP 1 1 0/\s.t 3=vI v3/\s.t 12=vR 100012 1/\s.t 13=vI ((3:Nat):Int)/\s.t 14=vI aa/\s.h 1=(1,oX 28 (M.YZ.en p0))/\s.h 100012=(1,oW 3 1 enI ([p0.Zv,p0.Zs,p0.Zm]))/\cX p0 m v3 aa=some r) fuel ?_ ?_
 ·refine⟨0,0,?_,?_,?_,?_,?_,?_,?_,h⟩;all_goals simp +decide only[F,reduceIte,Nat.reduceAdd,qB,qC,EN, *,-h]
 rintro mL1 s9 ⟨v3,aa,f10,f11,f12,f13,f14,f15,f16,h⟩
 rcases mL1 with _ | mL1
 ·exact absurd h (by simp[cX])
 simp only[cX]at h
 refine sq (rn ?_)
 refine an (sq ?_)
 rcases AU (decide (aa<((3:Nat):Int)))with af | af
 ·replace h:=bW af h;refine cf (xt (Bl (Bb (EJ (an (sq ?_))))));obtain⟨av,al,h⟩:=bind_some h;refine rn1 (Uj.1 _ _ al) ?_;refine an (rt ?_);cases h;simp[Ret,TB,EN, *]
 replace h:=bX af h
 refine ct (sk (an (sq (bk (sq ?_)))))
 obtain⟨ae,ao,h⟩:=bind_some h
 obtain⟨aw,ax,aq⟩:=pZ ao
 have q20m:=congrArg (Option.map enI) (show([p0.Zv,p0.Zs,p0.Zm])[aa.toNat]? = some ae by assumption)
 simp only[<-List.getElem?_map,List.map_cons,List.map_nil,Option.map_some,EN]at q20m
 simp only[qJ,qK,Nat.reduceAdd]at aq
 refine rn ?_
 refine an (sq (sq ?_))
 obtain⟨ar,ah,h⟩:=bind_some h
 rcases jR (!ar)with ai | ai
 ·replace h:=bX ai h;refine rn1 (c70.1 _ _ _ _ ah) ?_;refine an (ct (sq (rn ?_)));refine an (rt ?_);cases h;simp[Ret,TB,EN, *]
 replace h:=bW ai h
 rcases AU (ae != 0)with aj | aj
 ·replace h:=bW aj h;refine rn1 (c70.1 _ _ _ _ ah) ?_;refine an (cf (sk (an (rn ?_))));refine ab (an (rn ?_));refine fA ⟨mL1,qc,if ae>v3 then ae else v3,IntKind.i64.wrap (aa+1),?_,?_,?_,?_,?_,?_,?_,h⟩;all_goals simp +decide only[F,reduceIte,Nat.reduceAdd,qB,qC,EN, *,-h]
 replace h:=bX aj h
 refine rn1 (c70.1 _ _ _ _ ah) ?_
 refine an ?_
 rcases jR (decide (ae<=v3))with ak | ak
 ·replace h:=bX ak h;refine ct (sq (rn ?_));refine an (rt ?_);cases h;simp[Ret,TB,EN, *]
 replace h:=bW ak h
 refine cf (sk (an (rn ?_)))
 refine ab (an (rn ?_))
 refine fA ⟨mL1,qc,if ae>v3 then ae else v3,IntKind.i64.wrap (aa+1),?_,?_,?_,?_,?_,?_,?_,h⟩
 all_goals simp +decide only[F,reduceIte,Nat.reduceAdd,qB,qC,EN, *,-h]⟩
instance:bR 227 (∀p0 r (h:rV p0=some r),Sc 227 [aX (M.aE.en p0)] [rB r]):=⟨λp0 r h=>by
 have i1:=inv λm s=>∃v10:Int,(s.t 1=vP 1 1 0/\s.t 8=vL M.Y6.en p0.Y1/\s.t 9=vI (List.length p0.Y1:Int)/\s.t 10=vI v10/\s.h 1=(1,oX 31 (M.aE.en p0)))/\dZ p0 m v10=some r
 have e1:=@dZ.eq_2
 have i2:=λ(v10:Int) (x8:M.Y6) (af:Int->Option Bool) (s1:St)=>inv λm s=>∃aa:Int,(s.t 1=vP 1 1 0/\s.t 4=vP 4 ((s1.h 4).1+1) 0/\s.t 8=vL M.Y6.en p0.Y1/\s.t 9=vI (List.length p0.Y1:Int)/\s.t 10=vI v10/\s.t 42=vL M.Zb.en x8.Y8/\s.t 43=vI (List.length x8.Y8:Int)/\s.t 44=vI aa/\s.h 1=(1,oX 31 (M.aE.en p0))/\s.h 4=((s1.h 4).1+1,oX 193 (M.Y6.en x8)))/\eB x8 af m aa=some r
 have e2:=@eB.eq_2
 have i3:=λ(v10:Int) (x8:M.Y6) (ah:Int->Option Bool) (s1:St)=>inv λm s=>∃ae:Int,(s.t 1=vP 1 1 0/\s.t 4=vP 4 ((s1.h 4).1+1) 0/\s.t 8=vL M.Y6.en p0.Y1/\s.t 9=vI (List.length p0.Y1:Int)/\s.t 10=vI v10/\s.t 42=vL M.Zb.en x8.Y8/\s.t 43=vI (List.length x8.Y8:Int)/\s.t 44=vI ae/\s.h 1=(1,oX 31 (M.aE.en p0))/\s.h 4=((s1.h 4).1+1,oX 193 (M.Y6.en x8)))/\dP x8 ah m ae=some r
 have e3:=@dP.eq_2
 unfold rV at h
 exact sgo 81 [.tmp 2] Tryz.func227⟩
instance:bR 251 (∀p0 r (h:sC p0=some r),Sc 251 [aX (M.aC.en p0)] [rB r]):=⟨λp0 r h=>by
 have i1:=inv λm s=>∃v8:Int,(s.t 1=vP 1 1 0/\s.t 6=vL M.Field.en p0.Y4/\s.t 7=vI (List.length p0.Y4:Int)/\s.t 8=vI v8/\s.h 1=(1,oX 254 (M.aC.en p0)))/\fO p0 m v8=some r
 have e1:=@fO.eq_2
 unfold sC at h
 exact sgo 44 [.tmp 2] Tryz.func251⟩
instance:bR 152 (∀p0 r (h:uC p0=some r),Sc 152 [aX (M.aA.en p0)] [rB r]):=⟨λp0 r h=>by
 have i1:=inv λm s=>∃v8:Int,(s.t 1=vP 1 1 0/\s.t 6=vL M.Zd.en p0.Y3/\s.t 7=vI (List.length p0.Y3:Int)/\s.t 8=vI v8/\s.h 1=(1,oX 40 (M.aA.en p0)))/\gH p0 m v8=some r
 have e1:=@gH.eq_2
 unfold uC at h
 exact sgo 55 [.tmp 2] Tryz.func152⟩
instance:bR 392 (∀p0 p1 p2 r (h:pX p0 p1 p2=some r),Sc 392 [aX (M.Zd.en p0),aX (M.Zd.en p1),aS p2] [rB r]):=⟨λp0 p1 p2 r h=>by unfold pX at h;exact sgo 41 [.tmp 6] Tryz.func392⟩
instance:bR 364 (∀p0 p1 r (h:wB p0 p1=some r),Sc 364 [aX (M.aA.en p0),aS p1] [rW 284 4 M.Zd.en r]):=⟨λp0 p1 r h=>by
 have i1:=inv λm s=>∃ah:Int,∃ae:List M.Zd,∃af:Nat,(s.t 1=vS p1/\s.t 5=vR 100011 af/\s.t 13=vL M.Zd.en p0.Y3/\s.t 14=vI (List.length p0.Y3:Int)/\s.t 15=vI ah/\s.h 100011=(af,oW 284 4 M.Zd.en ae))/\jC p0 p1 m ah ae=some r
 have e1:=@jC.eq_2
 have i2:=λ(ah:Int) (ae:List M.Zd) (ai:M.Zd) (aj:Int->Option (List M.Zd)) (s7:St) (af:Nat)=>inv λm s=>∃aa:Int,(s.t 1=vS p1/\s.t 5=vR 100011 af/\s.t 7=vP 7 ((s7.h 7).1+1) 0/\s.t 10=vI aa/\s.t 13=vL M.Zd.en p0.Y3/\s.t 14=vI (List.length p0.Y3:Int)/\s.t 15=vI ah/\s.h 7=((s7.h 7).1+1,oX 284 (M.Zd.en ai))/\s.h 100011=(af,oW 284 4 M.Zd.en ae))/\lN p1 ae ai aj m aa=some r
 have e2:=@lN.eq_2
 unfold wB at h
 exact sgo 52 [.tmp 4] Tryz.func364⟩
instance:bR 151 (∀p0 r (h:nI p0=some r),Sc 151 [aX (M.aV.en p0)] [rB r]):=⟨λp0 r h=>by unfold nI at h;exact sgo 26 [.tmp 2] Tryz.func151⟩
instance:bR 309 (∀p0 r (h:uM p0=some r),Sc 309 [aX (M.aF.en p0)] [rB r]):=⟨λp0 r h=>by
 have i1:=inv λm s=>∃aa:Int,(s.t 1=vP 1 1 0/\s.t 3=vI (List.length p0.Y9:Int)/\s.t 10=vL M.aV.en p0.Y9/\s.t 11=vI (List.length p0.Y9:Int)/\s.t 12=vI aa/\s.h 1=(1,oX 43 (M.aF.en p0)))/\kC p0 m aa=some r
 have e1:=@kC.eq_2
 unfold uM at h
 exact sgo 51 [.tmp 2] Tryz.func309⟩
instance:bR 248 (∀p0 r (h:oO p0=some r),Sc 248 [aX (M.aC.en p0)] [rW 5 1 enB r]):=⟨λp0 r h=>by
 have i1:=CO [.t 3 7050000 5 1] λm s=>∃af:Int,∃aa:List Int,∃ae:Nat,(s.t 3=vR 7050000 ae/\s.t 15=vL M.Field.en p0.Y4/\s.t 16=vI (List.length p0.Y4:Int)/\s.t 17=vI af/\s.h 7050000=(ae,oW 5 1 enB aa))/\fL p0 m af aa=some r
 have e1:=@fL.eq_2
 unfold oO at h
 exact sgo 31 [.tmp 2] Tryz.func248⟩
theorem Yx(p0 p1 r)(h:mL p0 p1=some r):Sc 319 [aX (M.Zb.en p0),aX (M.Zb.en p1)] [rB r]:=by unfold mL at h;exact sgo 24 [.tmp 4] Tryz.func319
theorem Yh(p0 p1 r)(h:mW p0 p1=some r):Sc 240 [aX (M.Y6.en p0),aX (M.Y6.en p1)] [rB r]:=by
 unfold mW at h
 simp only[EN]
 refine sgn 17 [.tmp 4] Tryz.func240 λbase wd => ?_
 refine sq (rn ?_)
 refine an (sq ?_)
 rcases AU (p0.Y2==p1.Y2)with b1 | b1
 ·replace h:=bW b1 h;refine rn ?_;refine an (rt ?_);cases h;simp[Ret,TB,EN, *]
 replace h:=bX b1 h
 obtain⟨U,I,h⟩:=bind_some h
 refine rn1 (YR p0.Y8 p1.Y8 (λj C=>mL j C) 319 [] (λj C r J=>Yx j C r J) U I) ?_
 refine an (rt ?_)
 cases h
 simp[Ret,TB,EN, *]
instance TU:bR 164 (∀p0 p1 r (h:gS p0 p1=some r),Sc 164 [aX (M.aA.en p0),aX (M.aA.en p1)] [rB r]):=⟨λp0 p1 r h=>by
 unfold gS at h
 simp only[EN]
 refine sgn 24 [.tmp 4] Tryz.func164 λbase wd => ?_
 refine sq (rn ?_)
 refine an (sq ?_)
 rcases AU (p0.Name.toList==p1.Name.toList)with b1 | b1
 ·replace h:=bW b1 h;refine rn ?_;refine an (rt ?_);cases h;simp[Ret,TB,EN, *]
 replace h:=bX b1 h
 rcases AU (p0.Zn==p1.Zn)with b2 | b2
 ·replace h:=bW b2 h;refine rn ?_;refine an (rt ?_);cases h;simp[Ret,TB,EN, *]
 replace h:=bX b2 h
 obtain⟨x3,h4,h⟩:=bind_some h
 refine rn1 (Yi p0.Y3 p1.Y3 (λz0 z1=>oE z0 z1) 263 [] (λz0 z1 r hr=>YT z0 z1 r hr) x3 h4) ?_
 refine an (rt ?_)
 cases h
 simp[Ret,TB,EN, *]⟩
instance:bR 241 (∀p0 p1 r (h:mG p0 p1=some r),Sc 241 [aX (M.YY.en p0),aX (M.YY.en p1)] [rB r]):=⟨λp0 p1 r h=>by
 unfold mG at h
 simp only[EN]
 refine sgn 31 [.tmp 4] Tryz.func241 λbase wd => ?_
 refine sq (rn ?_)
 refine an (sq ?_)
 rcases AU (p0.Name.toList==p1.Name.toList)with b1 | b1
 ·replace h:=bW b1 h;refine rn ?_;refine an (rt ?_);cases h;simp[Ret,TB,EN, *]
 replace h:=bX b1 h
 rcases AU (p0.Y2==p1.Y2)with b2 | b2
 ·replace h:=bW b2 h;refine rn ?_;refine an (rt ?_);cases h;simp[Ret,TB,EN, *]
 replace h:=bX b2 h
 obtain⟨x3,h4,h⟩:=bind_some h
 rcases AU x3 with b5 | b5
 ·replace h:=bW b5 h;refine rn1 (Wf p0.Y5 p1.Y5 (λz0 z1=>gS z0 z1) 164 [] (λz0 z1 r hr=>TU.1 z0 z1 r hr) x3 h4) ?_;refine an (rt ?_);cases h;simp[Ret,TB,EN, *]
 replace h:=bX b5 h
 obtain⟨x6,h7,h⟩:=bind_some h
 refine rn2 (Wf p0.Y5 p1.Y5 (λz0 z1=>gS z0 z1) 164 [] (λz0 z1 r hr=>TU.1 z0 z1 r hr) x3 h4) (Ym _ _ _ h7) ?_
 refine an (rt ?_)
 cases h
 simp[Ret,TB,EN, *]⟩
instance:bR 139 (∀p0 p1 r (h:nG p0 p1=some r),Sc 139 [aX (M.aD.en p0),aX (M.aD.en p1)] [rB r]):=⟨λp0 p1 r h=>by unfold nG at h;exact sgo 24 [.tmp 4] Tryz.func139⟩
end Go.Proofs.YtipmihbgjolaaaaGreat.gen
