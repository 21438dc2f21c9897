/-
  Helper text. No conditions.
-/
import Derived.Test.YtjlnkcoeghonfaaGreatStepPageWimpl0
import Derived.Test.YtjlnkcoeghonfaaGreatStepPageWimpl1
set_option linter.all false
namespace Go.Proofs.YtjlnkcoeghonfaaGreat.gen
open Go Go.Sh
set_option maxRecDepth 20000
set_option maxHeartbeats 4000000
instance:aZ 367 (∀p0 r (h:sQ p0=some r),Sc 367 [aX (M.aO.en p0)] [(true,M.aO.rs r)]):=⟨λp0 r h=>by
 have i1:=Ni [.b 3 0 7050100 277 2] λm s=>∃aj:Int,∃ah:List M.aJs,∃aa:Nat,(s.t 2=vP 2 1 0/\s.t 3=vP 3 1 0/\s.t 11=vL M.aJs.en p0.aJk/\s.t 12=vI (List.length p0.aJk:Int)/\s.t 13=vI aj/\s.h 2=(1,oB 66 [.nil])/\s.h 3=(1,oB 66 [.row 7050100 aa])/\s.h 7050100=(aa,oW 277 2 M.aJs.en ah))/\eQ p0 m aj ah=some r
 have e1:=@eQ.eq_2
 have i2:=λ(aj:Int) (ah:List M.aJs) (ak:M.aJs) (al:Int->List M.aJo->Option M.aO) (s1:St) (aa:Nat)=>Ni [.b 6 1 7050000 279 7] λm s=>∃ai:Int,∃ae:List M.aJo,∃af:Nat,(s.t 2=vP 2 1 0/\s.t 3=vP 3 1 0/\s.t 6=vP 6 ((s1.h 6).1+1) 0/\s.t 11=vL M.aJs.en p0.aJk/\s.t 12=vI (List.length p0.aJk:Int)/\s.t 13=vI aj/\s.t 21=vL M.aJo.en ak.aJt/\s.t 22=vI (List.length ak.aJt:Int)/\s.t 23=vI ai/\s.h 2=(1,oB 66 [.nil])/\s.h 3=(1,oB 66 [.row 7050100 aa])/\s.h 6=((s1.h 6).1+1,oB 277 [cI ak.aJd,.row 7050000 af])/\s.h 7050000=(af,oW 279 7 M.aJo.en ae)/\s.h 7050100=(aa,oW 277 2 M.aJs.en ah))/\gG ak al m ai ae=some r
 have e2:=@gG.eq_2
 unfold sQ at h
 exact sgo 46 [.cell 2 66] Tryz.func367⟩
instance aCX:aZ 254 (∀p0 r (h:aY p0=some r),Sc 254 [aX (M.aD.en p0)] [(true,M.aD.rs r)]):=⟨λp0 r h=>by
 have i1:=Ni [.b 3 1 7050000 320 4] λm s=>∃af:Int,∃aa:List M.aJl,∃ae:Nat,(s.t 2=vP 2 1 0/\s.t 3=vP 3 1 0/\s.t 12=vL M.aJl.en p0.aJe/\s.t 13=vI (List.length p0.aJe:Int)/\s.t 14=vI af/\s.h 2=(1,oB 75 [cS (⟨#[]⟩:ByteArray),.nil,cI 0])/\s.h 3=(1,oB 75 [cS p0.Name,.row 7050000 ae,cI p0.aJ7])/\s.h 7050000=(ae,oW 320 4 M.aJl.en aa))/\kT p0 m af aa=some r
 have e1:=@kT.eq_2
 unfold aY at h
 exact sgo 27 [.cell 2 75] Tryz.func254⟩
instance YY:aZ 266 (∀p0 r (h:dN p0=some r),Sc 266 [aX (M.aJb.en p0)] [(true,M.aJb.rs r)]):=⟨λp0 r h=>by
 have i1:=Ni [.b 3 2 7050000 75 3] λm s=>∃af:Int,∃aa:List M.aD,∃ae:Nat,(s.t 2=vP 2 1 0/\s.t 3=vP 3 1 0/\s.t 16=vL M.aD.en p0.aJm/\s.t 17=vI (List.length p0.aJm:Int)/\s.t 18=vI af/\s.h 2=(1,W8)/\s.h 3=(1,oB 70 [cS p0.Name,cI p0.aJd,.row 7050000 ae,.row 100010 2])/\s.h 100010=(2,oW 382 2 M.aG.en p0.aJw)/\s.h 7050000=(ae,oW 75 3 M.aD.en aa))/\gI p0 m af aa=some r
 have e1:=@gI.eq_2
 unfold dN at h
 exact sgo 31 [.cell 2 70] Tryz.func266⟩
instance:aZ 281 (∀p0 r (h:pP p0=some r),Sc 281 [aX (M.aE.en p0)] [(true,M.aE.rs r)]):=⟨λp0 r h=>by unfold pP at h;exact sgo 12 [.cell 2 82] Tryz.func281⟩
instance:aZ 134 (∀p0 r (h:zN p0=some r),Sc 134 [aL M.bD.en p0] [rW 91 11 M.bD.en r]):=⟨λp0 r h=>by
 have i1:=inv λm s=>∃v9:Int,∃r6:List M.bD,∃u6:Nat,(s.t 3=vR 100006 u6/\s.t 7=vL M.bD.en p0/\s.t 8=vI (List.length p0:Int)/\s.t 9=vI v9/\s.h 100006=(u6,oW 91 11 M.bD.en r6))/\lC p0 m v9 r6=some r
 have e1:=@lC.eq_2
 unfold zN at h
 exact sgo 20 [.tmp 2] Tryz.func134⟩
instance:aZ 138 (∀p0 r (h:xQ p0=some r),Sc 138 [aX (M.aJn.en p0)] [(true,M.aJn.rs r)]):=⟨λp0 r h=>by unfold xQ at h;exact sgo 15 [.cell 2 156] Tryz.func138⟩
instance aAO:aZ 258 (∀p0 r (h:bV p0=some r),Sc 258 [aS p0] [rB r]):=⟨λp0 r h=>by unfold bV at h;exact sgo 5 [.tmp 2] Tryz.func258⟩
instance:aZ 369 (∀p0 r (h:vU p0=some r),Sc 369 [aX (M.aJc.en p0)] [rB r]):=⟨λp0 r h=>by
 unfold vU at h
 simp only[EN]
 refine sgn 37 [.tmp 2] Tryz.func369 λbase wd => ?_
 refine sq (rn ?_)
 refine an (sq (rn ?_))
 refine an (sq (sq (rn ?_)))
 refine an (bk ?_)
 refine cu (λs=>s.t 1=vP 1 1 0/\s.t 3=vI 0/\s.t 12=vR 100012 1/\s.t 13=vI ((3:Nat):Int)/\s.t 14=vI 0/\s.h 1=(1,oX 63 (M.aJc.en p0))/\s.h 100012=(1,oW 3 1 enI ([p0.aKL,p0.aKE,p0.aJ9]))/\True) ?_
 rintro s1 f2
 refine GD (λm s=>∃v3:Int,∃aa:Int,s.t 1=vP 1 1 0/\s.t 3=vI v3/\s.t 12=vR 100012 1/\s.t 13=vI ((3:Nat):Int)/\s.t 14=vI aa/\s.h 1=(1,oX 63 (M.aJc.en p0))/\s.h 100012=(1,oW 3 1 enI ([p0.aKL,p0.aKE,p0.aJ9]))/\dQ p0 m v3 aa=some r) fuel ?_ ?_
 ·refine⟨0,0,?_,?_,?_,?_,?_,?_,?_,h⟩;all_goals simp +decide only[F,reduceIte,Nat.reduceAdd,qB,qC,EN, *,-h]
 rintro mL1 s9 ⟨v3,aa,f10,f11,f12,f13,f14,f15,f16,h⟩
 rcases mL1 with _ | mL1
 ·exact absurd h (by simp[dQ])
 simp only[dQ]at h
 refine sq (rn ?_)
 refine an (sq ?_)
 rcases GB (decide (aa<((3:Nat):Int)))with af | af
 ·replace h:=bI af h;refine cf (xt (EW (EP (It (an (sq ?_))))));obtain⟨av,al,h⟩:=bind_some h;refine rn1 (aAO.1 _ _ al) ?_;refine an (rt ?_);cases h;simp[Ret,TB,EN, *]
 replace h:=bJ af h
 refine ct (sk (an (sq (bk (sq ?_)))))
 obtain⟨ae,ao,h⟩:=bind_some h
 obtain⟨aw,ax,aq⟩:=aU ao
 have q20m:=congrArg (Option.map enI) (show([p0.aKL,p0.aKE,p0.aJ9])[aa.toNat]? = some ae by assumption)
 simp only[<-List.getElem?_map,List.map_cons,List.map_nil,Option.map_some,EN]at q20m
 simp only[qJ,qK,Nat.reduceAdd]at aq
 refine rn ?_
 refine an (sq (sq ?_))
 obtain⟨ar,ah,h⟩:=bind_some h
 rcases cK (!ar)with ai | ai
 ·replace h:=bJ ai h;refine rn1 (Qs.1 _ _ _ _ ah) ?_;refine an (ct (sq (rn ?_)));refine an (rt ?_);cases h;simp[Ret,TB,EN, *]
 replace h:=bI ai h
 rcases GB (ae != 0)with aj | aj
 ·replace h:=bI aj h;refine rn1 (Qs.1 _ _ _ _ ah) ?_;refine an (cf (sk (an (rn ?_))));refine ab (an (rn ?_));refine jU ⟨mL1,jD,if ae>v3 then ae else v3,IntKind.i64.wrap (aa+1),?_,?_,?_,?_,?_,?_,?_,h⟩;all_goals simp +decide only[F,reduceIte,Nat.reduceAdd,qB,qC,EN, *,-h]
 replace h:=bJ aj h
 refine rn1 (Qs.1 _ _ _ _ ah) ?_
 refine an ?_
 rcases cK (decide (ae<=v3))with ak | ak
 ·replace h:=bJ ak h;refine ct (sq (rn ?_));refine an (rt ?_);cases h;simp[Ret,TB,EN, *]
 replace h:=bI ak h
 refine cf (sk (an (rn ?_)))
 refine ab (an (rn ?_))
 refine jU ⟨mL1,jD,if ae>v3 then ae else v3,IntKind.i64.wrap (aa+1),?_,?_,?_,?_,?_,?_,?_,h⟩
 all_goals simp +decide only[F,reduceIte,Nat.reduceAdd,qB,qC,EN, *,-h]⟩
instance:aZ 370 (∀p0 r (h:wS p0=some r),Sc 370 [aX (M.aO.en p0)] [rB r]):=⟨λp0 r h=>by
 have i1:=inv λm s=>∃v10:Int,(s.t 1=vP 1 1 0/\s.t 8=vL M.aJs.en p0.aJk/\s.t 9=vI (List.length p0.aJk:Int)/\s.t 10=vI v10/\s.h 1=(1,oX 66 (M.aO.en p0)))/\fA p0 m v10=some r
 have e1:=@fA.eq_2
 have i2:=λ(v10:Int) (x8:M.aJs) (af:Int->Option Bool) (s1:St)=>inv λm s=>∃aa:Int,(s.t 1=vP 1 1 0/\s.t 4=vP 4 ((s1.h 4).1+1) 0/\s.t 8=vL M.aJs.en p0.aJk/\s.t 9=vI (List.length p0.aJk:Int)/\s.t 10=vI v10/\s.t 42=vL M.aJo.en x8.aJt/\s.t 43=vI (List.length x8.aJt:Int)/\s.t 44=vI aa/\s.h 1=(1,oX 66 (M.aO.en p0))/\s.h 4=((s1.h 4).1+1,oX 277 (M.aJs.en x8)))/\fB x8 af m aa=some r
 have e2:=@fB.eq_2
 have i3:=λ(v10:Int) (x8:M.aJs) (ah:Int->Option Bool) (s1:St)=>inv λm s=>∃ae:Int,(s.t 1=vP 1 1 0/\s.t 4=vP 4 ((s1.h 4).1+1) 0/\s.t 8=vL M.aJs.en p0.aJk/\s.t 9=vI (List.length p0.aJk:Int)/\s.t 10=vI v10/\s.t 42=vL M.aJo.en x8.aJt/\s.t 43=vI (List.length x8.aJt:Int)/\s.t 44=vI ae/\s.h 1=(1,oX 66 (M.aO.en p0))/\s.h 4=((s1.h 4).1+1,oX 277 (M.aJs.en x8)))/\eS x8 ah m ae=some r
 have e3:=@eS.eq_2
 unfold wS at h
 exact sgo 81 [.tmp 2] Tryz.func370⟩
instance:aZ 275 (∀p0 r (h:cM p0=some r),Sc 275 [aX (M.aA.en p0)] [rB r]):=⟨λp0 r h=>by
 have i1:=inv λm s=>∃v8:Int,(s.t 1=vP 1 1 0/\s.t 6=vL M.Field.en p0.aJi/\s.t 7=vI (List.length p0.aJi:Int)/\s.t 8=vI v8/\s.h 1=(1,oX 207 (M.aA.en p0)))/\gR p0 m v8=some r
 have e1:=@gR.eq_2
 unfold cM at h
 exact sgo 44 [.tmp 2] Tryz.func275⟩
instance:aZ 375 (∀p0 p1 r (h:eF p0 p1=some r),Sc 375 [aX (M.Key.en p0),aX (M.Key.en p1)] [rI r]):=⟨λp0 p1 r h=>by unfold eF at h;exact sgo 36 [.tmp 4] Tryz.func375⟩
instance aAw:aZ 158 (∀p0 p1 r (h:gB p0 p1=some r),Sc 158 [aX (M.aA.en p0),aS p1] [rI r.1,rB r.2]):=⟨λp0 p1 r h=>by unfold gB at h;exact sgo 18 [.tmp 4,.tmp 5] Tryz.func158⟩
instance:aZ 586 (∀p0 p1 p2 r (h:vG p0 p1 p2=some r),Sc 586 [aX (M.aJl.en p0),aX (M.aJl.en p1),aS p2] [rB r]):=⟨λp0 p1 p2 r h=>by unfold vG at h;exact sgo 41 [.tmp 6] Tryz.func586⟩
instance:aZ 262 (∀p0 r (h:mV p0=some r),Sc 262 [aX (M.aW.en p0)] [rB r]):=⟨λp0 r h=>by unfold mV at h;exact sgo 26 [.tmp 2] Tryz.func262⟩
instance aBg:aZ 400 (∀p0 r (h:iF p0=some r),Sc 400 [aX (M.Key.en p0)] [rW 5 1 enB r]):=⟨λp0 r h=>by
 have i1:=inv λm s=>∃v4:Int,∃aa:List Int,∃ae:Nat,(s.t 1=vP 1 1 0/\s.t 3=vR 100012 ae/\s.t 4=vI v4/\s.h 1=(1,oX 216 (M.Key.en p0))/\s.h 100012=(ae,oW 5 1 enB aa))/\cC p0 m v4 aa=some r
 have e1:=@cC.eq_2
 unfold iF at h
 exact sgo 34 [.tmp 2] Tryz.func400⟩
instance aCM:aZ 402 (∀p0 p1 r (h:gP p0 p1=some r),Sc 402 [aL enB p0,aL enB p1] [rW 5 1 enB r]):=⟨λp0 p1 r h=>by unfold gP at h;exact sgo 11 [.tmp 4] Tryz.func402⟩
instance:aZ 257 (∀p0 r (h:wT p0=some r),Sc 257 [aS p0] [rB r]):=⟨λp0 r h=>by unfold wT at h;exact sgo 5 [.tmp 2] Tryz.func257⟩
instance:aZ 143 (∀p0 r (h:uT p0=some r),Sc 143 [aX (M.aQ.en p0)] [rB r]):=⟨λp0 r h=>by
 have i1:=inv λm s=>∃v10:Int,(s.t 1=vP 1 1 0/\s.t 8=vL M.fE.en p0.aJv/\s.t 9=vI (List.length p0.aJv:Int)/\s.t 10=vI v10/\s.h 1=(1,oX 43 (M.aQ.en p0)))/\fO p0 m v10=some r
 have e1:=@fO.eq_2
 have i2:=λ(v10:Int) (x8:M.fE) (ae:Int->Option Bool) (s1:St)=>inv λm s=>∃aa:Int,(s.t 1=vP 1 1 0/\s.t 4=vP 4 ((s1.h 4).1+1) 0/\s.t 8=vL M.fE.en p0.aJv/\s.t 9=vI (List.length p0.aJv:Int)/\s.t 10=vI v10/\s.t 28=vL M.fE.en (List.take v10.toNat p0.aJv)/\s.t 29=vI (List.length (List.take v10.toNat p0.aJv):Int)/\s.t 30=vI aa/\s.h 1=(1,oX 43 (M.aQ.en p0))/\s.h 4=((s1.h 4).1+1,oX 144 (M.fE.en x8)))/\cX p0 v10 x8 ae m aa=some r
 have e2:=@cX.eq_2
 unfold uT at h
 exact sgo 64 [.tmp 2] Tryz.func143⟩
instance:aZ 144 (∀p0 r (h:zH p0=some r),Sc 144 [aX (M.bD.en p0)] [rB r]):=⟨λp0 r h=>by
 have i1:=inv λm s=>∃v8:Int,(s.t 1=vP 1 1 0/\s.t 6=vL M.aJ.en p0.aJ/\s.t 7=vI (List.length p0.aJ:Int)/\s.t 8=vI v8/\s.h 1=(1,oX 91 (M.bD.en p0)))/\rD p0 m v8=some r
 have e1:=@rD.eq_2
 unfold zH at h
 exact sgo 48 [.tmp 2] Tryz.func144⟩
instance:aZ 146 (∀p0 r (h:yZ p0=some r),Sc 146 [aX (M.aJj.en p0)] [rB r]):=⟨λp0 r h=>by
 have i1:=inv λm s=>∃v8:Int,(s.t 1=vP 1 1 0/\s.t 6=vL enS p0.aKA/\s.t 7=vI (List.length p0.aKA:Int)/\s.t 8=vI v8/\s.h 1=(1,oX 151 (M.aJj.en p0)))/\kN p0 m v8=some r
 have e1:=@kN.eq_2
 unfold yZ at h
 exact sgo 45 [.tmp 2] Tryz.func146⟩
instance:aZ 150 (∀p0 p1 r (h:rM p0 p1=some r),Sc 150 [aX (M.Instr.en p0),aI p1] [rB r]):=⟨λp0 p1 r h=>by
 unfold rM at h
 simp only[EN]
 refine sgn 94 [.tmp 4] Tryz.func150 λbase wd => ?_
 refine sq (rn ?_)
 refine an (sq ?_)
 obtain⟨x1,h2,h⟩:=bind_some h
 refine E8 (λs=>s.t 1=vI p1/\s.t 2=vP 2 1 0/\s.t 30=vB x1/\s.h 2=(1,oX 197 (M.Instr.en p0))/\True) ?_ ?_
 ·replace h:=h2;clear h2;obtain⟨x8,h9,h⟩:=bind_some h;rcases cK (!x8)with ae | ae;(replace h:=bJ ae h;refine rn1 (Qs.1 _ _ _ _ h9) ?_;cases h;refine jU ⟨?_,?_,?_,?_,trivial⟩<;>(try simp +decide only[F,reduceIte,Nat.reduceAdd,qB,qC,EN, *,-h]));replace h:=bI ae h;obtain⟨bt,aa,h⟩:=bind_some h;rcases cK (!bt)with af | af;(replace h:=bJ af h;refine rn2 (Qs.1 _ _ _ _ h9) (Qs.1 _ _ _ _ aa) ?_;cases h;refine jU ⟨?_,?_,?_,?_,trivial⟩<;>(try simp +decide only[F,reduceIte,Nat.reduceAdd,qB,qC,EN, *,-h]));replace h:=bI af h;rcases cK (p0.aJr==4)with ah | ah;(replace h:=bJ ah h;refine rn2 (Qs.1 _ _ _ _ h9) (Qs.1 _ _ _ _ aa) ?_;cases h;refine jU ⟨?_,?_,?_,?_,trivial⟩<;>(try simp +decide only[F,reduceIte,Nat.reduceAdd,qB,qC,EN, *,-h]));replace h:=bI ah h;rcases cK (p0.aJr==9)with ai | ai;(replace h:=bJ ai h;refine rn2 (Qs.1 _ _ _ _ h9) (Qs.1 _ _ _ _ aa) ?_;cases h;refine jU ⟨?_,?_,?_,?_,trivial⟩<;>(try simp +decide only[F,reduceIte,Nat.reduceAdd,qB,qC,EN, *,-h]));replace h:=bI ai h;refine rn2 (Qs.1 _ _ _ _ h9) (Qs.1 _ _ _ _ aa) ?_;cases h;refine jU ⟨?_,?_,?_,?_,trivial⟩<;>(try simp +decide only[F,reduceIte,Nat.reduceAdd,qB,qC,EN, *,-h])
 clear h2
 rintro s3 f4
 rcases cK x1 with aj | aj
 ·replace h:=bJ aj h;refine ct (sq (rn ?_));refine an (rt ?_);cases h;simp[Ret,TB,EN, *]
 replace h:=bI aj h
 refine cf (sk (an ?_))
 obtain⟨bm,ak,h⟩:=bind_some h
 refine E8 (λs=>s.t 1=vI p1/\s.t 2=vP 2 1 0/\s.t 5=vB bm/\s.h 2=(1,oX 197 (M.Instr.en p0))/\True) ?_ ?_
 ·replace h:=ak;clear ak;rcases cK (p0.aJr==5)with al | al;(replace h:=bJ al h;refine rn ?_;cases h;refine jU ⟨?_,?_,?_,?_,trivial⟩<;>(try simp +decide only[F,reduceIte,Nat.reduceAdd,qB,qC,EN, *,-h]));replace h:=bI al h;rcases cK (p0.aJr==6)with ao | ao;(replace h:=bJ ao h;refine rn ?_;cases h;refine jU ⟨?_,?_,?_,?_,trivial⟩<;>(try simp +decide only[F,reduceIte,Nat.reduceAdd,qB,qC,EN, *,-h]));replace h:=bI ao h;rcases cK (p0.aJr==7)with aq | aq;(replace h:=bJ aq h;refine rn ?_;cases h;refine jU ⟨?_,?_,?_,?_,trivial⟩<;>(try simp +decide only[F,reduceIte,Nat.reduceAdd,qB,qC,EN, *,-h]));replace h:=bI aq h;refine rn ?_;cases h;refine jU ⟨?_,?_,?_,?_,trivial⟩<;>(try simp +decide only[F,reduceIte,Nat.reduceAdd,qB,qC,EN, *,-h])
 clear ak
 rintro cc f20
 refine sq ?_
 obtain⟨bn,ar,h⟩:=bind_some h
 refine E8 (λs=>s.t 1=vI p1/\s.t 2=vP 2 1 0/\s.t 64=vB bn/\s.h 2=(1,oX 197 (M.Instr.en p0))/\True) ?_ ?_
 ·replace h:=ar;clear ar;rcases GB bm with av | av;(replace h:=bI av h;refine rn ?_;cases h;refine jU ⟨?_,?_,?_,?_,trivial⟩<;>(try simp +decide only[F,reduceIte,Nat.reduceAdd,qB,qC,EN, *,-h]));replace h:=bJ av h;obtain⟨bu,bo,h⟩:=bind_some h;rcases cK (!bu)with aw | aw;(replace h:=bJ aw h;refine rn1 (aAO.1 _ _ bo) ?_;cases h;refine jU ⟨?_,?_,?_,?_,trivial⟩<;>(try simp +decide only[F,reduceIte,Nat.reduceAdd,qB,qC,EN, *,-h]));replace h:=bI aw h;refine rn1 (aAO.1 _ _ bo) ?_;cases h;refine jU ⟨?_,?_,?_,?_,trivial⟩<;>(try simp +decide only[F,reduceIte,Nat.reduceAdd,qB,qC,EN, *,-h])
 clear ar
 rintro cd f30
 rcases cK bn with ax | ax
 ·replace h:=bJ ax h;refine ct (sq (rn ?_));refine an (rt ?_);cases h;simp[Ret,TB,EN, *]
 replace h:=bI ax h
 refine cf (sk (an (sq (sq (rn ?_)))))
 refine an (bk (sq (rn ?_)))
 refine an ?_
 rcases cK (p0.aJr==1)with ay | ay
 ·replace h:=bJ ay h;refine ct (sq ?_);obtain⟨cg,bw,h⟩:=bind_some h;refine rn1 (Qs.1 _ _ _ _ bw) ?_;refine an (rt ?_);cases h;simp[Ret,TB,EN, *]
 replace h:=bI ay h
 refine cf (sq (rn ?_))
 refine an ?_
 rcases cK (p0.aJr==2)with az | az
 ·replace h:=bJ az h;refine ct (sq ?_);obtain⟨cj,bz,h⟩:=bind_some h;refine rn1 (Qs.1 _ _ _ _ bz) ?_;refine an (rt ?_);cases h;simp[Ret,TB,EN, *]
 replace h:=bI az h
 refine cf ?_
 obtain⟨bq,ba,h⟩:=bind_some h
 refine E8 (λs=>s.t 1=vI p1/\s.t 2=vP 2 1 0/\s.t 66=vI p0.aJr/\s.t 77=vB bq/\s.h 2=(1,oX 197 (M.Instr.en p0))/\True) ?_ ?_
 ·replace h:=ba;clear ba;refine sq (rn ?_);refine an ?_;rcases cK (p0.aJr==3)with bd | bd;(replace h:=bJ bd h;refine ct (sk ?_);cases h;refine jU ⟨?_,?_,?_,?_,?_,trivial⟩<;>(try simp +decide only[F,reduceIte,Nat.reduceAdd,qB,qC,EN, *,-h]));replace h:=bI bd h;refine cf (rn ?_);cases h;refine jU ⟨?_,?_,?_,?_,?_,trivial⟩<;>(try simp +decide only[F,reduceIte,Nat.reduceAdd,qB,qC,EN, *,-h])
 clear ba
 rintro ck f48
 rcases cK bq with bf | bf
 ·replace h:=bJ bf h;refine ct (sq ?_);obtain⟨cn,c5,h⟩:=bind_some h;refine rn1 (Qs.1 _ _ _ _ c5) ?_;refine an (rt ?_);cases h;simp[Ret,TB,EN, *]
 replace h:=bI bf h
 refine cf ?_
 obtain⟨br,bg,h⟩:=bind_some h
 refine E8 (λs=>s.t 2=vP 2 1 0/\s.t 84=vB br/\s.h 2=(1,oX 197 (M.Instr.en p0))/\True) ?_ ?_
 ·replace h:=bg;clear bg;refine sq (rn ?_);refine an ?_;rcases cK (p0.aJr==6)with bh | bh;(replace h:=bJ bh h;refine ct (sk ?_);cases h;refine jU ⟨?_,?_,?_,trivial⟩<;>(try simp +decide only[F,reduceIte,Nat.reduceAdd,qB,qC,EN, *,-h]));replace h:=bI bh h;refine cf (sq (rn ?_));refine an ?_;rcases cK (p0.aJr==7)with bj | bj;(replace h:=bJ bj h;refine ct (sk ?_);cases h;refine jU ⟨?_,?_,?_,trivial⟩<;>(try simp +decide only[F,reduceIte,Nat.reduceAdd,qB,qC,EN, *,-h]));replace h:=bI bj h;refine cf (rn ?_);cases h;refine jU ⟨?_,?_,?_,trivial⟩<;>(try simp +decide only[F,reduceIte,Nat.reduceAdd,qB,qC,EN, *,-h])
 clear bg
 rintro cq f60
 rcases GB br with bl | bl
 ·replace h:=bI bl h;refine cf (sk (ab (an (sq (rn ?_)))));refine an (rt ?_);cases h;simp[Ret,TB,EN, *]
 replace h:=bJ bl h
 refine ct (sq ?_)
 obtain⟨cr,ca,h⟩:=bind_some h
 refine rn1 (Qs.1 _ _ _ _ ca) ?_
 refine an (rt ?_)
 cases h
 simp[Ret,TB,EN, *]⟩
instance:aZ 152 (∀p0 p1 p2 r (h:kG p0 p1 p2=some r),Sc 152 [aX (M.World.en p0),aS p1,aS p2] [(true,M.aJa.ra r.1),rB r.2]):=⟨λp0 p1 p2 r h=>by unfold kG at h;exact sgo 23 [.cell 6 84,.tmp 7] Tryz.func152⟩
instance:aZ 155 (∀p0 p1 r (h:FA p0 p1=some r),Sc 155 [aX (M.World.en p0),aS p1] [(true,M.aJj.ra r)]):=⟨λp0 p1 r h=>by unfold FA at h;exact sgo 23 [.cell 4 151] Tryz.func155⟩
instance:aZ 264 (∀p0 p1 p2 p3 r (h:yG p0 p1 p2 p3=some r),Sc 264 [aX (M.aO.en p0),aI p1,aS p2,aS p3] [(true,M.aJg.rs r.1),rB r.2]):=⟨λp0 p1 p2 p3 r h=>by unfold yG at h;exact sgo 40 [.cell 8 107,.tmp 9] Tryz.func264⟩
instance:aZ 380 (∀p0 p1 r (h:Cv p0 p1=some r),Sc 380 [aX (M.aJj.en p0),aS p1] [rB r]):=⟨λp0 p1 r h=>by unfold Cv at h;exact sgo 9 [.tmp 4] Tryz.func380⟩
instance:aZ 485 (∀p0 r (h:Ep p0=some r),Sc 485 [aL enI p0] [rI r]):=⟨λp0 r h=>by
 have i1:=inv λm s=>∃v3:Int,∃v8:Int,(s.t 3=vI v3/\s.t 6=vL enI p0/\s.t 7=vI (List.length p0:Int)/\s.t 8=vI v8)/\wB p0 m v3 v8=some r
 have e1:=@wB.eq_2
 unfold Ep at h
 exact sgo 21 [.tmp 2] Tryz.func485⟩
instance:aZ 483 (∀p0 p1 r (h:uB p0 p1=some r),Sc 483 [aI p0,aL enI p1] [rI r]):=⟨λp0 p1 r h=>by unfold uB at h;exact sgo 13 [.tmp 4] Tryz.func483⟩
instance:aZ 384 (∀p0 p1 r (h:yF p0 p1=some r),Sc 384 [aI p0,aL enB p1] [rI r]):=⟨λp0 p1 r h=>by unfold yF at h;exact sgo 11 [.tmp 4] Tryz.func384⟩
theorem aJM(p0 r)(h:uN p0=some r):Sc 385 [aL enB p0] [(true,M.Key.rs r.1),rB r.2]:=by
 have i1:=λ(x2:Int)=>inv λm s=>∃j:Int,∃v30:Int,(s.t 0=vL enB p0/\s.t 2=vP 2 1 0/\s.t 4=vP 4 1 0/\s.t 5=vL enB (List.drop (1:Int).toNat p0)/\s.t 6=vI j/\s.t 28=vL enB (List.take (6:Int).toNat (List.drop (1:Int).toNat p0))/\s.t 29=vI (List.length (List.take (6:Int).toNat (List.drop (1:Int).toNat p0)):Int)/\s.t 30=vI v30/\s.h 2=(1,oB 216 [cI 0,cI 0,cS (⟨#[]⟩:ByteArray)])/\s.h 4=(1,oB 216 [cI (IntKind.i64.wrap x2),cI 0,cS (⟨#[]⟩:ByteArray)]))/\kU p0 x2 m j v30=some r
 have e1:=@kU.eq_2
 unfold uN at h
 exact sgo 55 [.cell 2 216,.tmp 3] Tryz.func385
instance:aZ 590 (∀p0 p1 r (h:zS p0 p1=some r),Sc 590 [aX (M.Key.en p0),aX (M.dE.en p1)] [rB r]):=⟨λp0 p1 r h=>by unfold zS at h;exact sgo 50 [.tmp 4] Tryz.func590⟩
instance:aZ 157 (∀p0 p1 r (h:B6 p0 p1=some r),Sc 157 [aX (M.aJb.en p0),aI p1] [(true,M.aA.ra r.1),rB r.2.1,rB r.2.2]):=⟨λp0 p1 r h=>by unfold B6 at h;exact sgo 35 [.cell 4 207,.tmp 5,.tmp 6] Tryz.func157⟩
