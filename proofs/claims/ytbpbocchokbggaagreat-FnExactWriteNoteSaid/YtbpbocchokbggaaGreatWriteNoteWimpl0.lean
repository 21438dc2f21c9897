/-
  Helper text. No conditions.
-/
import Derived.Test.YtbpbocchokbggaaGreatWriteNoteTi
set_option linter.all false
namespace Go.Proofs.YtbpbocchokbggaaGreat.gen
open Go Go.Sh
set_option maxRecDepth 20000
set_option maxHeartbeats 4000000
instance:aZ 346 (∀p0 r (h:dG p0=some r),Sc 346 [aL enB p0] [rW 5 1 enB r]):=⟨λp0 r h=>by unfold dG at h;exact sgo 6 [.tmp 2] Tryz.func346⟩
instance:aZ 297 (∀p0 r (h:oL p0=some r),Sc 297 [aX (M.aEQ.en p0)] [(true,M.aEQ.rs r)]):=⟨λp0 r h=>by unfold oL at h;exact sgo 8 [.cell 2 189] Tryz.func297⟩
instance:aZ 281 (∀p0 r (h:oK p0=some r),Sc 281 [aX (M.aP.en p0)] [(true,M.aP.rs r)]):=⟨λp0 r h=>by
 have i1:=KP [.b 3 0 7050100 345 2] λm s=>∃aj:Int,∃ah:List M.aEZ,∃aa:Nat,(s.t 2=vP 2 1 0/\s.t 3=vP 3 1 0/\s.t 11=vL M.aEZ.en p0.aEV/\s.t 12=vI (List.length p0.aEV:Int)/\s.t 13=vI aj/\s.h 2=(1,oB 108 [.nil])/\s.h 3=(1,oB 108 [.row 7050100 aa])/\s.h 7050100=(aa,oW 345 2 M.aEZ.en ah))/\dR p0 m aj ah=some r
 have e1:=@dR.eq_2
 have i2:=λ(aj:Int) (ah:List M.aEZ) (ak:M.aEZ) (al:Int->List M.aEW->Option M.aP) (s1:St) (aa:Nat)=>KP [.b 6 1 7050000 351 7] λm s=>∃ai:Int,∃ae:List M.aEW,∃af:Nat,(s.t 2=vP 2 1 0/\s.t 3=vP 3 1 0/\s.t 6=vP 6 ((s1.h 6).1+1) 0/\s.t 11=vL M.aEZ.en p0.aEV/\s.t 12=vI (List.length p0.aEV:Int)/\s.t 13=vI aj/\s.t 21=vL M.aEW.en ak.aEa/\s.t 22=vI (List.length ak.aEa:Int)/\s.t 23=vI ai/\s.h 2=(1,oB 108 [.nil])/\s.h 3=(1,oB 108 [.row 7050100 aa])/\s.h 6=((s1.h 6).1+1,oB 345 [cI ak.aER,.row 7050000 af])/\s.h 7050000=(af,oW 351 7 M.aEW.en ae)/\s.h 7050100=(aa,oW 345 2 M.aEZ.en ah))/\fE ak al m ai ae=some r
 have e2:=@fE.eq_2
 unfold oK at h
 exact sgo 46 [.cell 2 108] Tryz.func281⟩
instance WT:aZ 330 (∀p0 p1 r (h:eH p0 p1=some r),Sc 330 [aL enB p0,aI p1] [rI r.1,rI r.2.1,rB r.2.2]):=⟨λp0 p1 r h=>by
 have i1:=inv λm s=>∃v7:Int,∃v8:Int,(s.t 0=vL enB p0/\s.t 1=vI p1/\s.t 7=vI v7/\s.t 8=vI v8)/\gF p0 p1 m v7 v8=some r
 have e1:=@gF.eq_2
 unfold eH at h
 exact sgo 61 [.tmp 4,.tmp 5,.tmp 6] Tryz.func330⟩
instance V1:aZ 329 (∀p0 p1 p2 r (h:dD p0 p1 p2=some r),Sc 329 [aL enB p0,aI p1,aI p2] [rW 5 1 enB r.1,rI r.2.1,rB r.2.2]):=⟨λp0 p1 p2 r h=>by unfold dD at h;exact sgo 45 [.tmp 6,.tmp 7,.tmp 8] Tryz.func329⟩
instance:aZ 447 (∀p0 r (h:rP p0=some r),Sc 447 [aL enB p0] [rW 3 1 enI r]):=⟨λp0 r h=>by
 have i1:=inv λm s=>∃v11:Int,∃r8:List Int,∃u8:Nat,(s.t 3=vR 100008 u8/\s.t 9=vL enB p0/\s.t 10=vI (List.length p0:Int)/\s.t 11=vI v11/\s.h 100008=(u8,oW 3 1 enI r8))/\gD p0 m v11 r8=some r
 have e1:=@gD.eq_2
 unfold rP at h
 exact sgo 22 [.tmp 2] Tryz.func447⟩
instance Wf:aZ 240 (∀p0 p1 p2 r (h:bG p0 p1 p2=some r),Sc 240 [aI p0,aI p1,aI p2] [rB r]):=⟨λp0 p1 p2 r h=>by unfold bG at h;exact sgo 15 [.tmp 6] Tryz.func240⟩
instance:aZ 525 (∀p0 p1 r (h:En p0 p1=some r),Sc 525 [aI p0,aI p1] [rI r]):=⟨λp0 p1 r h=>by unfold En at h;exact sgo 18 [.tmp 4] Tryz.func525⟩
instance:aZ 446 (∀p0 r (h:DB p0=some r),Sc 446 [aL enI p0] [rI r]):=⟨λp0 r h=>by
 have i1:=inv λm s=>∃v3:Int,∃v8:Int,(s.t 3=vI v3/\s.t 6=vL enI p0/\s.t 7=vI (List.length p0:Int)/\s.t 8=vI v8)/\sA p0 m v3 v8=some r
 have e1:=@sA.eq_2
 unfold DB at h
 exact sgo 21 [.tmp 2] Tryz.func446⟩
instance:aZ 331 (∀p0 p1 r (h:uB p0 p1=some r),Sc 331 [aI p0,aL enB p1] [rI r]):=⟨λp0 p1 r h=>by unfold uB at h;exact sgo 11 [.tmp 4] Tryz.func331⟩
instance:aZ 533 (∀p0 r (h:vF p0=some r),Sc 533 [aS p0] [rB r]):=⟨λp0 r h=>by
 have i1:=inv λm s=>∃v3:Int,(s.t 0=vS p0/\s.t 3=vI v3)/\dN p0 m v3=some r
 have e1:=@dN.eq_2
 unfold vF at h
 exact sgo 36 [.tmp 2] Tryz.func533⟩
instance:aZ 455 (∀p0 r (h:fX p0=some r),Sc 455 [aX (M.Key.en p0)] [rB r]):=⟨λp0 r h=>by unfold fX at h;exact sgo 39 [.tmp 2] Tryz.func455⟩
instance Ye:aZ 349 (∀p0 r (h:gJ p0=some r),Sc 349 [aX (M.Key.en p0)] [rW 5 1 enB r]):=⟨λp0 r h=>by
 have i1:=inv λm s=>∃v4:Int,∃aa:List Int,∃ae:Nat,(s.t 1=vP 1 1 0/\s.t 3=vR 100012 ae/\s.t 4=vI v4/\s.h 1=(1,oX 136 (M.Key.en p0))/\s.h 100012=(ae,oW 5 1 enB aa))/\bX p0 m v4 aa=some r
 have e1:=@bX.eq_2
 unfold gJ at h
 exact sgo 34 [.tmp 2] Tryz.func349⟩
instance:aZ 448 (∀p0 p1 r (h:oO p0 p1=some r),Sc 448 [aL enB p0,aL enB p1] [rB r]):=⟨λp0 p1 r h=>by
 have i1:=inv λm s=>∃aa:Int,(s.t 0=vL enB p0/\s.t 1=vL enB p1/\s.t 12=vI (List.length p0:Int)/\s.t 13=vI aa)/\hZ p0 p1 m aa=some r
 have e1:=@hZ.eq_2
 unfold oO at h
 exact sgo 26 [.tmp 4] Tryz.func448⟩
instance Xt:aZ 334 (∀p0 p1 r (h:iY p0 p1=some r),Sc 334 [aL enB p0,aL enB p1] [rB r]):=⟨λp0 p1 r h=>by unfold iY at h;exact sgo 8 [.tmp 4] Tryz.func334⟩
theorem aDx(p0 r)(h:pR p0=some r):Sc 332 [aL enB p0] [(true,M.Key.rs r.1),rB r.2]:=by
 have i1:=λ(x2:Int)=>inv λm s=>∃j:Int,∃v30:Int,(s.t 0=vL enB p0/\s.t 2=vP 2 1 0/\s.t 4=vP 4 1 0/\s.t 5=vL enB (List.drop (1:Int).toNat p0)/\s.t 6=vI j/\s.t 28=vL enB (List.take (6:Int).toNat (List.drop (1:Int).toNat p0))/\s.t 29=vI (List.length (List.take (6:Int).toNat (List.drop (1:Int).toNat p0)):Int)/\s.t 30=vI v30/\s.h 2=(1,oB 136 [cI 0,cI 0,cS (⟨#[]⟩:ByteArray)])/\s.h 4=(1,oB 136 [cI (IntKind.i64.wrap x2),cI 0,cS (⟨#[]⟩:ByteArray)]))/\iM p0 x2 m j v30=some r
 have e1:=@iM.eq_2
 unfold pR at h
 exact sgo 55 [.cell 2 136,.tmp 3] Tryz.func332
instance:aZ 454 (∀p0 p1 p2 r (h:Bz p0 p1 p2=some r),Sc 454 [aS p0,aI p1,aB p2] [rB r]):=⟨λp0 p1 p2 r h=>by
 have i1:=inv λm s=>∃v7:Int,(s.t 0=vS p0/\s.t 1=vI p1/\s.t 2=vB p2/\s.t 7=vI v7)/\gK p0 p1 p2 m v7=some r
 have e1:=@gK.eq_2
 unfold Bz at h
 exact sgo 38 [.tmp 6] Tryz.func454⟩
instance YF:aZ 345 (∀p0 r (h:cR p0=some r),Sc 345 [aS p0] [rB r]):=⟨λp0 r h=>by unfold cR at h;exact sgo 5 [.tmp 2] Tryz.func345⟩
instance:aZ 199 (∀p0 r (h:cD p0=some r),Sc 199 [aX (M.aA.en p0)] [rB r]):=⟨λp0 r h=>by
 have i1:=inv λm s=>∃v8:Int,(s.t 1=vP 1 1 0/\s.t 6=vL M.Field.en p0.aEN/\s.t 7=vI (List.length p0.aEN:Int)/\s.t 8=vI v8/\s.h 1=(1,oX 129 (M.aA.en p0)))/\fS p0 m v8=some r
 have e1:=@fS.eq_2
 unfold cD at h
 exact sgo 44 [.tmp 2] Tryz.func199⟩
instance WU:aZ 348 (∀p0 p1 r (h:cA p0 p1=some r),Sc 348 [aL enB p0,aI p1] [rW 5 1 enB r]):=⟨λp0 p1 r h=>by
 have i1:=inv λm s=>∃v1:Int,∃r7:List Int,∃u7:Nat,(s.t 1=vI v1/\s.t 5=vR 100007 u7/\s.h 100007=(u7,oW 5 1 enB r7))/\cF m v1 r7=some r
 have e1:=@cF.eq_2
 unfold cA at h
 exact sgo 28 [.tmp 4] Tryz.func348⟩
instance Xk:aZ 351 (∀p0 p1 r (h:fQ p0 p1=some r),Sc 351 [aL enB p0,aL enB p1] [rW 5 1 enB r]):=⟨λp0 p1 r h=>by unfold fQ at h;exact sgo 11 [.tmp 4] Tryz.func351⟩
instance:aZ 558 (∀p0 p1 r (h:pW p0 p1=some r),Sc 558 [aI p0,aI p1] [rI r]):=⟨λp0 p1 r h=>by unfold pW at h;exact sgo 13 [.tmp 4] Tryz.func558⟩
set_option maxRecDepth 100000 in
theorem aBy (j:ByteArray) (C:ByteArray) (r:Int) (h:lD j C=some r):nB Tryz.prog 608 [(false,[.str j]),(false,[.str C])] [(false,[.ro (.int .i64 r)])]:=by
 refine O1 Tryz.func608 rfl jH λw => ?_
 cases h
 go_enter Tryz.func608,Tryz.ntmps608
 go_wp2
 rw [run_callFunc_extern Tryz.func632 (by kernel_rfl) (by kernel_rfl) (by kernel_rfl) (e:=Extern.BytealgCompare.compare) (by kernel_rfl),Lib.run_compareString]
 simp only [Result.andThen]
 rw [Oper.upon_value]
 go_wp2
 go_ret
 exact ⟨rfl,rfl⟩
instance:aZ 608 (type_of%@aBy):=⟨@aBy⟩
instance:aZ 559 (∀p0 p1 r (h:zD p0 p1=some r),Sc 559 [aS p0,aS p1] [rI r]):=⟨λp0 p1 r h=>by unfold zD at h;exact sgo 8 [.tmp 4] Tryz.func559⟩
instance:aZ 476 (∀p0 p1 r (h:dI p0 p1=some r),Sc 476 [aX (M.Key.en p0),aX (M.Key.en p1)] [rI r]):=⟨λp0 p1 r h=>by unfold dI at h;exact sgo 36 [.tmp 4] Tryz.func476⟩
theorem aDP(p0 c0 r)(h:oS p0 c0=some r):Sc 342 [aX (M.Field.en p0),(false,[.ptr [.str c0]])] [rB r]:=by unfold oS at h;exact sgo 8 [.tmp 3] Tryz.func342
theorem aDc(I:List M.Field)(J:M.Field->Option Bool)(j:FuncId)(C:List D)(hp1:∀z0 r,J z0=some r->nB Tryz.prog j ((true,M.Field.en z0)::  C.map λc=>(false,[c])) [(false,[.ro (.bool r)])])(r:Int)(h:jZ I J=some r):Sc 341 [(false,[.sl (List.map M.Field.en I)]),(false,[.fn j C])] [rI r]:=by
 have i1:=inv λm s=>∃U:Int,(s.t 0=vL M.Field.en I/\s.t 1=.v false [.dat (.fn j C)]/\s.t 7=vI (List.length I:Int)/\s.t 8=vI U)/\cV I J m U=some r
 have e1:=@cV.eq_2
 unfold jZ at h
 exact sgo 19 [.tmp 4] Tryz.func341
instance:aZ 197 (∀p0 p1 r (h:xF p0 p1=some r),Sc 197 [aX (M.aA.en p0),aS p1] [rI r]):=⟨λp0 p1 r h=>by
 unfold xF at h
 simp only[EN]
 refine sgn 9 [.tmp 4] Tryz.func197 λbase wd => ?_
 refine sq (rn ?_)
 refine an (sq ?_)
 obtain⟨x1,h2,h⟩:=bind_some h
 refine rn1 (aDc p0.aEN (λz0=>oS z0 p1) 342 [.ptr [.str p1]] (λz0 r hr=>aDP z0 p1 r hr) x1 h2) ?_
 refine an (rt ?_)
 cases h
 simp[Ret,TB,EN, *]⟩
instance WL:aZ 528 (∀p0 p1 r (h:fW p0 p1=some r),Sc 528 [aX (M.aA.en p0),aS p1] [rI r.1,rB r.2]):=⟨λp0 p1 r h=>by unfold fW at h;exact sgo 18 [.tmp 4,.tmp 5] Tryz.func528⟩
instance:aZ 586 (∀p0 p1 p2 r (h:rF p0 p1 p2=some r),Sc 586 [aX (M.aES.en p0),aX (M.aES.en p1),aS p2] [rB r]):=⟨λp0 p1 p2 r h=>by unfold rF at h;exact sgo 41 [.tmp 6] Tryz.func586⟩
instance:aZ 590 (∀p0 p1 r (h:vK p0 p1=some r),Sc 590 [aX (M.Key.en p0),aX (M.cP.en p1)] [rB r]):=⟨λp0 p1 r h=>by unfold vK at h;exact sgo 50 [.tmp 4] Tryz.func590⟩
instance:aZ 279 (∀p0 r (h:rT p0=some r),Sc 279 [aX (M.aEL.en p0)] [rB r]):=⟨λp0 r h=>by
 unfold rT at h
 simp only[EN]
 refine sgn 37 [.tmp 2] Tryz.func279 λbase wd => ?_
 refine sq (rn ?_)
 refine an (sq (rn ?_))
 refine an (sq (sq (rn ?_)))
 refine an (bk ?_)
 refine cu (λs=>s.t 1=vP 1 1 0/\s.t 3=vI 0/\s.t 12=vR 100012 1/\s.t 13=vI ((3:Nat):Int)/\s.t 14=vI 0/\s.h 1=(1,oX 105 (M.aEL.en p0))/\s.h 100012=(1,oW 3 1 enI ([p0.aE0,p0.aEw,p0.aEn]))/\True) ?_
 rintro s1 f2
 refine DW (λm s=>∃v3:Int,∃aa:Int,s.t 1=vP 1 1 0/\s.t 3=vI v3/\s.t 12=vR 100012 1/\s.t 13=vI ((3:Nat):Int)/\s.t 14=vI aa/\s.h 1=(1,oX 105 (M.aEL.en p0))/\s.h 100012=(1,oW 3 1 enI ([p0.aE0,p0.aEw,p0.aEn]))/\dA p0 m v3 aa=some r) fuel ?_ ?_
 ·refine⟨0,0,?_,?_,?_,?_,?_,?_,?_,h⟩;all_goals simp +decide only[F,reduceIte,Nat.reduceAdd,qB,qC,EN, *,-h]
 rintro mL1 s9 ⟨v3,aa,f10,f11,f12,f13,f14,f15,f16,h⟩
 rcases mL1 with _ | mL1
 ·exact absurd h (by simp[dA])
 simp only[dA]at h
 refine sq (rn ?_)
 refine an (sq ?_)
 rcases Ep (decide (aa<((3:Nat):Int)))with af | af
 ·replace h:=bQ af h;refine cf (xt (CS (CL (Ft (an (sq ?_))))));obtain⟨av,al,h⟩:=bind_some h;refine rn1 (YF.1 _ _ al) ?_;refine an (rt ?_);cases h;simp[Ret,TB,EN, *]
 replace h:=bR af h
 refine ct (sk (an (sq (bk (sq ?_)))))
 obtain⟨ae,ao,h⟩:=bind_some h
 obtain⟨aw,ax,aq⟩:=aO ao
 have q20m:=congrArg (Option.map enI) (show([p0.aE0,p0.aEw,p0.aEn])[aa.toNat]? = some ae by assumption)
 simp only[<-List.getElem?_map,List.map_cons,List.map_nil,Option.map_some,EN]at q20m
 simp only[qJ,qK,Nat.reduceAdd]at aq
 refine rn ?_
 refine an (sq (sq ?_))
 obtain⟨ar,ah,h⟩:=bind_some h
 rcases dQ (!ar)with ai | ai
 ·replace h:=bR ai h;refine rn1 (Wf.1 _ _ _ _ ah) ?_;refine an (ct (sq (rn ?_)));refine an (rt ?_);cases h;simp[Ret,TB,EN, *]
 replace h:=bQ ai h
 rcases Ep (ae != 0)with aj | aj
 ·replace h:=bQ aj h;refine rn1 (Wf.1 _ _ _ _ ah) ?_;refine an (cf (sk (an (rn ?_))));refine ab (an (rn ?_));refine BN ⟨mL1,jD,if ae>v3 then ae else v3,IntKind.i64.wrap (aa+1),?_,?_,?_,?_,?_,?_,?_,h⟩;all_goals simp +decide only[F,reduceIte,Nat.reduceAdd,qB,qC,EN, *,-h]
 replace h:=bR aj h
 refine rn1 (Wf.1 _ _ _ _ ah) ?_
 refine an ?_
 rcases dQ (decide (ae<=v3))with ak | ak
 ·replace h:=bR ak h;refine ct (sq (rn ?_));refine an (rt ?_);cases h;simp[Ret,TB,EN, *]
 replace h:=bQ ak h
 refine cf (sk (an (rn ?_)))
 refine ab (an (rn ?_))
 refine BN ⟨mL1,jD,if ae>v3 then ae else v3,IntKind.i64.wrap (aa+1),?_,?_,?_,?_,?_,?_,?_,h⟩
 all_goals simp +decide only[F,reduceIte,Nat.reduceAdd,qB,qC,EN, *,-h]⟩
theorem aDQ(p0 c0 c1 r)(h:vT p0 c0 c1=some r):Sc 422 [aX (M.aEW.en p0),(false,[.ptr [.str c0]]),(false,[.ptr [.str c1]])] [rB r]:=by unfold vT at h;exact sgo 15 [.tmp 4] Tryz.func422
theorem aDt(I:List M.aEW)(J:M.aEW->Option Bool)(j:FuncId)(C:List D)(hp1:∀z0 r,J z0=some r->nB Tryz.prog j ((true,M.aEW.en z0)::  C.map λc=>(false,[c])) [(false,[.ro (.bool r)])])(r:Int)(h:iG I J=some r):Sc 421 [(false,[.sl (List.map M.aEW.en I)]),(false,[.fn j C])] [rI r]:=by
 have i1:=inv λm s=>∃U:Int,(s.t 0=vL M.aEW.en I/\s.t 1=.v false [.dat (.fn j C)]/\s.t 7=vI (List.length I:Int)/\s.t 8=vI U)/\cO I J m U=some r
 have e1:=@cO.eq_2
 unfold iG at h
 exact sgo 19 [.tmp 4] Tryz.func421
instance:aZ 296 (∀p0 p1 p2 r (h:wT p0 p1 p2=some r),Sc 296 [aX (M.aEZ.en p0),aS p1,aS p2] [rI r]):=⟨λp0 p1 p2 r h=>by
 unfold wT at h
 simp only[EN]
 refine sgn 11 [.tmp 6] Tryz.func296 λbase wd => ?_
 refine sq (rn ?_)
 refine an (sq ?_)
 obtain⟨x1,h2,h⟩:=bind_some h
 refine rn1 (aDt p0.aEa (λz0=>vT z0 p1 p2) 422 [.ptr [.str p1],.ptr [.str p2]] (λz0 r hr=>aDQ z0 p1 p2 r hr) x1 h2) ?_
 refine an (rt ?_)
 cases h
 simp[Ret,TB,EN, *]⟩
instance:aZ 477 (∀p0 r (h:nS p0=some r),Sc 477 [aX (M.aEQ.en p0)] [rB r]):=⟨λp0 r h=>by unfold nS at h;exact sgo 22 [.tmp 2] Tryz.func477⟩
instance:aZ 385 (∀p0 r (h:sM p0=some r),Sc 385 [aX (M.aP.en p0)] [rB r]):=⟨λp0 r h=>by
 have i1:=inv λm s=>∃v10:Int,(s.t 1=vP 1 1 0/\s.t 8=vL M.aEZ.en p0.aEV/\s.t 9=vI (List.length p0.aEV:Int)/\s.t 10=vI v10/\s.h 1=(1,oX 108 (M.aP.en p0)))/\eC p0 m v10=some r
 have e1:=@eC.eq_2
 have i2:=λ(v10:Int) (x8:M.aEZ) (af:Int->Option Bool) (s1:St)=>inv λm s=>∃aa:Int,(s.t 1=vP 1 1 0/\s.t 4=vP 4 ((s1.h 4).1+1) 0/\s.t 8=vL M.aEZ.en p0.aEV/\s.t 9=vI (List.length p0.aEV:Int)/\s.t 10=vI v10/\s.t 42=vL M.aEW.en x8.aEa/\s.t 43=vI (List.length x8.aEa:Int)/\s.t 44=vI aa/\s.h 1=(1,oX 108 (M.aP.en p0))/\s.h 4=((s1.h 4).1+1,oX 345 (M.aEZ.en x8)))/\eD x8 af m aa=some r
 have e2:=@eD.eq_2
 have i3:=λ(v10:Int) (x8:M.aEZ) (ah:Int->Option Bool) (s1:St)=>inv λm s=>∃ae:Int,(s.t 1=vP 1 1 0/\s.t 4=vP 4 ((s1.h 4).1+1) 0/\s.t 8=vL M.aEZ.en p0.aEV/\s.t 9=vI (List.length p0.aEV:Int)/\s.t 10=vI v10/\s.t 42=vL M.aEW.en x8.aEa/\s.t 43=vI (List.length x8.aEa:Int)/\s.t 44=vI ae/\s.h 1=(1,oX 108 (M.aP.en p0))/\s.h 4=((s1.h 4).1+1,oX 345 (M.aEZ.en x8)))/\dU x8 ah m ae=some r
 have e3:=@dU.eq_2
 unfold sM at h
 exact sgo 81 [.tmp 2] Tryz.func385⟩
instance:aZ 382 (∀p0 r (h:mZ p0=some r),Sc 382 [aX (M.bB.en p0)] [rB r]):=⟨λp0 r h=>by unfold mZ at h;exact sgo 26 [.tmp 2] Tryz.func382⟩
