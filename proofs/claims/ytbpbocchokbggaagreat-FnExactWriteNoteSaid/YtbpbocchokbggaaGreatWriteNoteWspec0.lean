/-
  Helper text. No conditions.
-/
import Derived.Test.YtbpbocchokbggaaGreatWriteNoteTi
set_option linter.all false
namespace Go.Proofs.YtbpbocchokbggaaGreat.gen
open Go Go.Sh
set_option maxRecDepth 20000
set_option maxHeartbeats 4000000
instance:aZ 161 (∀p0 r (h:xD p0=some r),Sc 161 [aX (M.aR.en p0)] [(true,M.aR.rs r)]):=⟨λp0 r h=>by unfold xD at h;exact sgo 8 [.cell 2 51] Tryz.func161⟩
instance:aZ 162 (∀p0 r (h:xA p0=some r),Sc 162 [aX (M.aEY.en p0)] [(true,M.aEY.rs r)]):=⟨λp0 r h=>by unfold xA at h;exact sgo 8 [.cell 2 54] Tryz.func162⟩
instance Wg:aZ 126 (∀p0 p1 p2 r (h:bZ p0 p1 p2=some r),Sc 126 [aI p0,aI p1,aI p2] [rB r]):=⟨λp0 p1 p2 r h=>by unfold bZ at h;exact sgo 15 [.tmp 6] Tryz.func126⟩
instance:aZ 518 (∀p0 p1 r (h:D0 p0 p1=some r),Sc 518 [aI p0,aI p1] [rI r]):=⟨λp0 p1 r h=>by unfold D0 at h;exact sgo 15 [.tmp 4] Tryz.func518⟩
instance:aZ 436 (∀p0 r (h:Dr p0=some r),Sc 436 [aL enI p0] [rI r]):=⟨λp0 r h=>by
 have i1:=inv λm s=>∃v3:Int,∃v4:Int,(s.t 0=vL enI p0/\s.t 3=vI v3/\s.t 4=vI v4)/\rZ p0 m v3 v4=some r
 have e1:=@rZ.eq_2
 unfold Dr at h
 exact sgo 22 [.tmp 2] Tryz.func436⟩
instance:aZ 496 (∀p0 r (h:zA p0=some r),Sc 496 [aS p0] [rB r]):=⟨λp0 r h=>by
 have i1:=inv λm s=>∃v3:Int,(s.t 0=vS p0/\s.t 3=vI v3)/\gI p0 m v3=some r
 have e1:=@gI.eq_2
 unfold zA at h
 exact sgo 35 [.tmp 2] Tryz.func496⟩
instance:aZ 407 (∀p0 r (h:eJ p0=some r),Sc 407 [aX (M.Key.en p0)] [rB r]):=⟨λp0 r h=>by unfold eJ at h;exact sgo 36 [.tmp 2] Tryz.func407⟩
instance:aZ 510 (∀p0 r (h:oY p0=some r),Sc 510 [aL enB p0] [(true,M.Key.rs r.1),rB r.2]):=⟨λp0 r h=>by
 have i1:=λ(x2:Int)=>inv λm s=>∃v6:Int,∃v7:Int,(s.t 0=vL enB p0/\s.t 2=vP 2 1 0/\s.t 4=vP 4 1 0/\s.t 6=vI v6/\s.t 7=vI v7/\s.h 2=(1,oB 136 [cI 0,cI 0,cS (⟨#[]⟩:ByteArray)])/\s.h 4=(1,oB 136 [cI (IntKind.i64.wrap x2),cI 0,cS (⟨#[]⟩:ByteArray)]))/\iK p0 x2 m v6 v7=some r
 have e1:=@iK.eq_2
 unfold oY at h
 exact sgo 49 [.cell 2 136,.tmp 3] Tryz.func510⟩
instance Yw:aZ 267 (∀p0 r (h:dK p0=some r),Sc 267 [aS p0] [rB r]):=⟨λp0 r h=>by
 have i1:=inv λm s=>∃v3:Int,(s.t 0=vS p0/\s.t 3=vI v3)/\lB p0 m v3=some r
 have e1:=@lB.eq_2
 unfold dK at h
 exact sgo 23 [.tmp 2] Tryz.func267⟩
instance:aZ 169 (∀p0 r (h:bM p0=some r),Sc 169 [aX (M.aA.en p0)] [rB r]):=⟨λp0 r h=>by
 have i1:=inv λm s=>∃v3:Int,(s.t 1=vP 1 1 0/\s.t 3=vI v3/\s.h 1=(1,oX 129 (M.aA.en p0)))/\fL p0 m v3=some r
 have e1:=@fL.eq_2
 unfold bM at h
 exact sgo 53 [.tmp 2] Tryz.func169⟩
instance:aZ 312 (∀p0 p1 r (h:bU p0 p1=some r),Sc 312 [aL enB p0,aI p1] [rW 5 1 enB r]):=⟨λp0 p1 r h=>by
 have i1:=inv λm s=>∃v1:Int,∃r6:List Int,∃u6:Nat,(s.t 1=vI v1/\s.t 5=vR 100006 u6/\s.h 100006=(u6,oW 5 1 enB r6))/\cG m v1 r6=some r
 have e1:=@cG.eq_2
 unfold bU at h
 exact sgo 29 [.tmp 4] Tryz.func312⟩
instance:aZ 314 (∀p0 p1 r (h:bT p0 p1=some r),Sc 314 [aL enB p0,aL enB p1] [rW 5 1 enB r]):=⟨λp0 p1 r h=>by unfold bT at h;exact sgo 11 [.tmp 4] Tryz.func314⟩
instance:aZ 315 (∀p0 r (h:iH p0=some r),Sc 315 [aX (M.Key.en p0)] [rW 5 1 enB r]):=⟨λp0 r h=>by
 have i1:=inv λm s=>∃v4:Int,∃aa:List Int,∃ae:Nat,(s.t 1=vP 1 1 0/\s.t 3=vR 100012 ae/\s.t 4=vI v4/\s.h 1=(1,oX 136 (M.Key.en p0))/\s.h 100012=(ae,oW 5 1 enB aa))/\bE p0 m v4 aa=some r
 have e1:=@bE.eq_2
 unfold iH at h
 exact sgo 38 [.tmp 2] Tryz.func315⟩
instance:aZ 433 (∀p0 p1 r (h:tH p0 p1=some r),Sc 433 [aL enB p0,aL enB p1] [rB r]):=⟨λp0 p1 r h=>by unfold tH at h;exact sgo 10 [.tmp 4] Tryz.func433⟩
instance:aZ 497 (∀p0 p1 r (h:zC p0 p1=some r),Sc 497 [aB p0,aB p1] [rI r]):=⟨λp0 p1 r h=>by unfold zC at h;exact sgo 7 [.tmp 4] Tryz.func497⟩
instance:aZ 408 (∀p0 p1 r (h:bF p0 p1=some r),Sc 408 [aX (M.Key.en p0),aX (M.Key.en p1)] [rI r]):=⟨λp0 p1 r h=>by unfold bF at h;exact sgo 46 [.tmp 4] Tryz.func408⟩
instance:aZ 287 (∀p0 r (h:kA p0=some r),Sc 287 [aX (M.aEL.en p0)] [rB r]):=⟨λp0 r h=>by
 unfold kA at h
 simp only[EN]
 refine sgn 52 [.tmp 2] Tryz.func287 λbase wd => ?_
 refine sq (rn ?_)
 refine an (sq (rn ?_))
 refine an (sq (rn ?_))
 refine an (sq (sq ?_))
 refine cu (λs=>s.t 1=vP 1 1 0/\s.t 3=vI 0/\s.t 4=vR 100012 1/\s.h 1=(1,oX 105 (M.aEL.en p0))/\s.h 100012=(1,oW 3 1 enI ([p0.aE0,p0.aEw,p0.aEn]))/\True) ?_
 rintro s1 f2
 refine rn ?_
 refine an (bk ?_)
 refine DW (λm s=>∃v3:Int,∃v5:Int,s.t 1=vP 1 1 0/\s.t 3=vI v3/\s.t 4=vR 100012 1/\s.t 5=vI v5/\s.h 1=(1,oX 105 (M.aEL.en p0))/\s.h 100012=(1,oW 3 1 enI ([p0.aE0,p0.aEw,p0.aEn]))/\cC p0 m v3 v5=some r) fuel ?_ ?_
 ·refine⟨0,0,?_,?_,?_,?_,?_,?_,h⟩;all_goals simp +decide only[F,reduceIte,Nat.reduceAdd,qB,qC,EN, *,-h]
 rintro mL1 s7 ⟨v3,v5,f8,f9,f10,f11,f12,f13,h⟩
 rcases mL1 with _ | mL1
 ·exact absurd h (by simp[cC])
 simp only[cC]at h
 refine sq (sq (rn ?_))
 refine an ?_
 rcases Ep (decide (v5<((3:Nat):Int)))with ae | ae
 ·replace h:=bQ ae h;refine cf (xt (CS (CL (Ft (an (sq ?_))))));obtain⟨ar,ak,h⟩:=bind_some h;refine rn1 (Yw.1 _ _ ak) ?_;refine an (rt ?_);cases h;simp[Ret,TB,EN, *]
 replace h:=bR ae h
 refine ct (sk (an (sq (bk (sq (sq ?_))))))
 obtain⟨aa,al,h⟩:=bind_some h
 obtain⟨av,aw,ao⟩:=aO al
 have q17m:=congrArg (Option.map enI) (show([p0.aE0,p0.aEw,p0.aEn])[v5.toNat]? = some aa by assumption)
 simp only[<-List.getElem?_map,List.map_cons,List.map_nil,Option.map_some,EN]at q17m
 simp only[qJ,qK,Nat.reduceAdd]at ao
 obtain⟨aq,af,h⟩:=bind_some h
 rcases dQ (!aq)with ah | ah
 ·replace h:=bR ah h;refine rn1 (Wg.1 _ _ _ _ af) ?_;refine an (ct (sq (rn ?_)));refine an (rt ?_);cases h;simp[Ret,TB,EN, *]
 replace h:=bQ ah h
 rcases Ep (aa != 0)with ai | ai
 ·replace h:=bQ ai h;refine rn1 (Wg.1 _ _ _ _ af) ?_;refine an (cf (sk (an (sq (rn ?_)))));refine an (cf (sk (ab (an (rn ?_)))));refine BN ⟨mL1,jD,v3,IntKind.i64.wrap (v5+1),?_,?_,?_,?_,?_,?_,h⟩;all_goals simp +decide only[F,reduceIte,Nat.reduceAdd,qB,qC,EN, *,-h]
 replace h:=bR ai h
 refine rn1 (Wg.1 _ _ _ _ af) ?_
 refine an ?_
 rcases dQ (decide (aa<=v3))with aj | aj
 ·replace h:=bR aj h;refine ct (sq (rn ?_));refine an (rt ?_);cases h;simp[Ret,TB,EN, *]
 replace h:=bQ aj h
 refine cf (sk (an (sq (rn ?_))))
 refine an (ct (rn ?_))
 refine ab (an (rn ?_))
 refine BN ⟨mL1,jD,aa,IntKind.i64.wrap (v5+1),?_,?_,?_,?_,?_,?_,h⟩
 all_goals simp +decide only[F,reduceIte,Nat.reduceAdd,qB,qC,EN, *,-h]⟩
instance:aZ 562 (∀p0 r (h:tT p0=some r),Sc 562 [aX (M.aEQ.en p0)] [rB r]):=⟨λp0 r h=>by unfold tT at h;exact sgo 22 [.tmp 2] Tryz.func562⟩
instance:aZ 485 (∀p0 r (h:nT p0=some r),Sc 485 [aL M.aEW.en p0] [rB r]):=⟨λp0 r h=>by
 have i1:=inv λm s=>∃v3:Int,(s.t 0=vL M.aEW.en p0/\s.t 3=vI v3)/\dW p0 m v3=some r
 have e1:=@dW.eq_2
 have i2:=λ(v3:Int) (x5:M.aEW) (ae:Int->Option Bool)=>inv λm s=>∃aa:Int,(s.t 0=vL M.aEW.en p0/\s.t 3=vI v3/\s.t 4=vI aa)/\fC p0 v3 x5 ae m aa=some r
 have e2:=@fC.eq_2
 unfold nT at h
 exact sgo 68 [.tmp 2] Tryz.func485⟩
instance:aZ 268 (∀p0 r (h:nD p0=some r),Sc 268 [aX (M.bB.en p0)] [rB r]):=⟨λp0 r h=>by unfold nD at h;exact sgo 26 [.tmp 2] Tryz.func268⟩
