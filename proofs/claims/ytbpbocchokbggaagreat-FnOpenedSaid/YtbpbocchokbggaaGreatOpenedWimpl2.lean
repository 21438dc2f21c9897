/-
  Helper text. No conditions.
-/
import Derived.Test.YtbpbocchokbggaaGreatOpenedWimpl0
import Derived.Test.YtbpbocchokbggaaGreatOpenedWimpl1
set_option linter.all false
namespace Go.Proofs.YtbpbocchokbggaaGreat.gen
open Go Go.Sh
open Go.IntKind (i64)
set_option maxRecDepth 20000
set_option maxHeartbeats 4000000
instance:bK 297 (∀p0 r (h:mE p0=some r),Sc 297 [aX (M.aHH.en p0)] [(true,M.aHH.rs r)]):=⟨λp0 r h=>by unfold mE at h;exact sgo 8 [.cell 2 189] Tryz.func297⟩
instance:bK 445 (∀p0 r (h:yX p0=some r),Sc 445 [aX (M.aHV.en p0)] [(true,M.aHV.rs r)]):=⟨λp0 r h=>by unfold yX at h;exact sgo 9 [.cell 2 260] Tryz.func445⟩
instance:bK 456 (∀p0 r (h:AV p0=some r),Sc 456 [aX (M.aHY.en p0)] [(true,M.aHY.rs r)]):=⟨λp0 r h=>by unfold AV at h;exact sgo 8 [.cell 2 122] Tryz.func456⟩
instance:bK 131 (∀p0 r (h:iR p0=some r),Sc 131 [aX (M.bC.en p0)] [(true,M.bC.rs r)]):=⟨λp0 r h=>by unfold iR at h;exact sgo 13 [.cell 2 67] Tryz.func131⟩
instance:bK 454 (∀p0 p1 p2 r (h:A6 p0 p1 p2=some r),Sc 454 [aS p0,aI p1,aB p2] [rB r]):=⟨λp0 p1 p2 r h=>by
 have i1:=inv λm s=>∃v7:Int,(s.t 0=vS p0/\s.t 1=vI p1/\s.t 2=vB p2/\s.t 7=vI v7)/\iX p0 p1 p2 m v7=some r
 have e1:=@iX.eq_2
 unfold A6 at h
 exact sgo 38 [.tmp 6] Tryz.func454⟩
instance:bK 296 (∀p0 p1 p2 r (h:rQ p0 p1 p2=some r),Sc 296 [aX (M.aHM.en p0),aS p1,aS p2] [rI r]):=⟨λp0 p1 p2 r h=>by
 unfold rQ at h
 simp only[EN]
 refine sgn 11 [.tmp 6] Tryz.func296 λbase wd => ?_
 refine sq (rn ?_)
 refine an (sq ?_)
 obtain⟨x1,h2,h⟩:=bind_some h
 refine rn1 (aGp p0.aHS (λz0=>wD z0 p1 p2) 422 [.ptr [.str p1],.ptr [.str p2]] (λz0 r hr=>aGL z0 p1 p2 r hr) x1 h2) ?_
 refine an (rt ?_)
 cases h
 simp[Ret,TB,EN, *]⟩
instance:bK 477 (∀p0 r (h:uL p0=some r),Sc 477 [aX (M.aHH.en p0)] [rB r]):=⟨λp0 r h=>by unfold uL at h;exact sgo 22 [.tmp 2] Tryz.func477⟩
instance:bK 455 (∀p0 r (h:wW p0=some r),Sc 455 [aX (M.Key.en p0)] [rB r]):=⟨λp0 r h=>by unfold wW at h;exact sgo 39 [.tmp 2] Tryz.func455⟩
instance:bK 559 (∀p0 p1 r (h:A8 p0 p1=some r),Sc 559 [aS p0,aS p1] [rI r]):=⟨λp0 p1 r h=>by unfold A8 at h;exact sgo 8 [.tmp 4] Tryz.func559⟩
instance:bK 194 (∀p0 p1 r (h:zU p0 p1=some r),Sc 194 [aX (M.aHB.en p0),aS p1] [rI r]):=⟨λp0 p1 r h=>by
 unfold zU at h
 simp only[EN]
 refine sgn 9 [.tmp 4] Tryz.func194 λbase wd => ?_
 refine sq (rn ?_)
 refine an (sq ?_)
 obtain⟨x1,h2,h⟩:=bind_some h
 refine rn1 (aGr p0.aHP (λz0=>wX z0 p1) 338 [.ptr [.str p1]] (λz0 r hr=>aGz z0 p1 r hr) x1 h2) ?_
 refine an (rt ?_)
 cases h
 simp[Ret,TB,EN, *]⟩
instance:bK 449 (∀p0 p1 r (h:kM p0 p1=some r),Sc 449 [aL M.aN.en p0,aX (M.aN.en p1)] [rB r]):=⟨λp0 p1 r h=>by unfold kM at h;exact sgo 9 [.tmp 4] Tryz.func449⟩
instance:bK 197 (∀p0 p1 r (h:C2 p0 p1=some r),Sc 197 [aX (M.aD.en p0),aS p1] [rI r]):=⟨λp0 p1 r h=>by
 unfold C2 at h
 simp only[EN]
 refine sgn 9 [.tmp 4] Tryz.func197 λbase wd => ?_
 refine sq (rn ?_)
 refine an (sq ?_)
 obtain⟨x1,h2,h⟩:=bind_some h
 refine rn1 (aGW p0.aHG (λz0=>zQ z0 p1) 342 [.ptr [.str p1]] (λz0 r hr=>aGJ z0 p1 r hr) x1 h2) ?_
 refine an (rt ?_)
 cases h
 simp[Ret,TB,EN, *]⟩
instance:bK 478 (∀p0 r (h:yV p0=some r),Sc 478 [aX (M.aF.en p0)] [rI r]):=⟨λp0 r h=>by
 have i1:=inv λm s=>∃v3:Int,∃v11:Int,(s.t 3=vI v3/\s.t 9=vL M.aHM.en p0.aHC/\s.t 10=vI (List.length p0.aHC:Int)/\s.t 11=vI v11)/\fD p0 m v3 v11=some r
 have e1:=@fD.eq_2
 have i2:=λ(v11:Int) (x7:M.aHM) (af:Int->Int->Option Int)=>inv λm s=>∃ae:Int,∃aa:Int,(s.t 3=vI ae/\s.t 9=vL M.aHM.en p0.aHC/\s.t 10=vI (List.length p0.aHC:Int)/\s.t 11=vI v11/\s.t 16=vL M.aHU.en x7.aHS/\s.t 17=vI (List.length x7.aHS:Int)/\s.t 18=vI aa)/\kP x7 af m ae aa=some r
 have e2:=@kP.eq_2
 unfold yV at h
 exact sgo 34 [.tmp 2] Tryz.func478⟩
instance:bK 348 (∀p0 p1 r (h:kO p0 p1=some r),Sc 348 [aL enB p0,aI p1] [rW 5 1 enB r]):=⟨λp0 p1 r h=>by
 have i1:=inv λm s=>∃v1:Int,∃r7:List Int,∃u7:Nat,(s.t 1=vI v1/\s.t 5=vR 100007 u7/\s.h 100007=(u7,oW 5 1 enB r7))/\gH m v1 r7=some r
 have e1:=@gH.eq_2
 unfold kO at h
 exact sgo 28 [.tmp 4] Tryz.func348⟩
instance aAc:bK 189 (∀p0 p1 p2 r (h:iZ p0 p1 p2=some r),Sc 189 [aX (M.aA.en p0),aS p1,aS p2] [rI r]):=⟨λp0 p1 p2 r h=>by
 unfold iZ at h
 simp only[EN]
 refine sgn 11 [.tmp 6] Tryz.func189 λbase wd => ?_
 refine sq (rn ?_)
 refine an (sq ?_)
 obtain⟨x1,h2,h⟩:=bind_some h
 refine rn1 (aF7 p0.aHE (λz0=>uX z0 p1 p2) 328 [.ptr [.str p1],.ptr [.str p2]] (λz0 r hr=>aGT z0 p1 p2 r hr) x1 h2) ?_
 refine an (rt ?_)
 cases h
 simp[Ret,TB,EN, *]⟩
instance c95:bK 95 (∀p0 r (h:mQ p0=some r),Sc 95 [aS p0] [rI r]):=⟨λp0 r h=>by unfold mQ at h;exact sgo 6 [.tmp 2] Tryz.func95⟩
instance:bK 284 (∀p0 p1 r (h:Ai p0 p1=some r),Sc 284 [aX (M.aF.en p0),aI p1] [rI r]):=⟨λp0 p1 r h=>by
 unfold Ai at h
 simp only[EN]
 refine sgn 9 [.tmp 4] Tryz.func284 λbase wd => ?_
 refine sq (rn ?_)
 refine an (sq ?_)
 obtain⟨x1,h2,h⟩:=bind_some h
 refine rn1 (aF9 p0.aHC (λz0=>wY z0 p1) 415 [.ptr [.int .i64 p1]] (λz0 r hr=>aGY z0 p1 r hr) x1 h2) ?_
 refine an (rt ?_)
 cases h
 simp[Ret,TB,EN, *]⟩
instance:bK 482 (∀p0 p1 r (h:sJ p0 p1=some r),Sc 482 [aL enS p0,aS p1] [rB r]):=⟨λp0 p1 r h=>by unfold sJ at h;exact sgo 9 [.tmp 4] Tryz.func482⟩
instance:bK 525 (∀p0 p1 r (h:EO p0 p1=some r),Sc 525 [aI p0,aI p1] [rI r]):=⟨λp0 p1 r h=>by unfold EO at h;exact sgo 18 [.tmp 4] Tryz.func525⟩
instance:bK 334 (∀p0 p1 r (h:uK p0 p1=some r),Sc 334 [aL enB p0,aL enB p1] [rB r]):=⟨λp0 p1 r h=>by unfold uK at h;exact sgo 8 [.tmp 4] Tryz.func334⟩
instance:bK 495 (∀p0 p1 r (h:uY p0 p1=some r),Sc 495 [aX (M.aD.en p0),aX (M.aD.en p1)] [rB r]):=⟨λp0 p1 r h=>by unfold uY at h;exact sgo 10 [.tmp 4] Tryz.func495⟩
instance:bK 569 (∀p0 p1 r (h:uA p0 p1=some r),Sc 569 [aX (M.aJ.en p0),aX (M.aJ.en p1)] [rB r]):=⟨λp0 p1 r h=>by unfold uA at h;exact sgo 24 [.tmp 4] Tryz.func569⟩
instance:bK 262 (∀p0 p1 r (h:tT p0 p1=some r),Sc 262 [aX (M.aHJ.en p0),aX (M.aHJ.en p1)] [rB r]):=⟨λp0 p1 r h=>by unfold tT at h;exact sgo 45 [.tmp 4] Tryz.func262⟩
theorem aB5(p0 p1 r)(h:pT p0 p1=some r):Sc 117 [aX (M.aHL.en p0),aX (M.aHL.en p1)] [rB r]:=by unfold pT at h;exact sgo 31 [.tmp 4] Tryz.func117
theorem c22(p0 p1 r)(h:wP p0 p1=some r):Sc 22 [aX (M.World.en p0),aI p1] [rI r]:=by
 unfold wP at h
 simp only[EN]
 refine sgn 9 [.tmp 4] Tryz.func22 λbase wd => ?_
 refine sq (rn ?_)
 refine an (sq ?_)
 obtain⟨x1,h2,h⟩:=bind_some h
 refine rn1 (aGN p0.aHQ (λj=>xF j p1) 121 [.ptr [.int .i64 p1]] (λj r C=>aGh j p1 r C) x1 h2) ?_
 refine an (rt ?_)
 cases h
 simp[Ret,TB,EN, *]
theorem aGy(p0:List M.dO)(p1:M.dO->Option Bool)(f1_:FuncId)(k1_:List D)(hp1:∀z0 r,p1 z0=some r->gL Tryz.prog f1_ ((true,M.dO.en z0)::  k1_.map λc=>(false,[c])) [(false,[.ro (.bool r)])])(r:(List M.dO))(h:nE p0 p1=some r):gL Tryz.prog 271 [(false,[.sl (List.map M.dO.en p0)]),(false,[.fn f1_ k1_])] [(false,[.edit (.turn 196 4 (List.map M.dO.en r))])]:=by
 unfold nE at h
 refine VH (N:=42) (vars:=[.tmp 4]) Tryz.func271 rfl rfl rfl jJ jI (M.dO.en.fl _) (M.dO.en.fl _) (λy hy=>by obtain⟨x,_,rfl⟩:=qx.1 hy;rfl) λbase wd=> ?_
 refine sq ?_
 apply bE
 ·simp+decide only[LQ,E,reduceIte,Nat.reduceAdd,Nat.reduceMul,qB,qC,L,EN];exact Is.mk _
 refine an (sq ?_)
 obtain⟨x1,h2,h⟩:=bind_some h
 apply bE
 ·simp+decide only[LQ,E,reduceIte,Nat.reduceAdd,Nat.reduceMul,qB,qC,L,EN]
  refine⟨_,aGf p0 p1 f1_ k1_ hp1 x1 h2,?_⟩
  try simp+decide only[LQ,E,reduceIte,Nat.reduceAdd,Nat.reduceMul,qB,qC,L,EN]
  exact Is.mk _
 refine an (sq (sq ?_))
 apply bE
 ·simp+decide only[LQ,E,reduceIte,Nat.reduceAdd,Nat.reduceMul,qB,qC,L,EN];exact Is.mk _
 refine an ?_
 rcases dP (x1==(-1))with b3|b3
 ·replace h:=bG b3 h;refine CE (by simp+decide only[LQ,F,reduceIte,Nat.reduceAdd,qB,qC,b3]) ?_;refine sq ?_;apply bE;(simp+decide only[LQ,E,reduceIte,Nat.reduceAdd,Nat.reduceMul,qB,qC,L,EN,b3];exact Is.mk _);refine an (rt ?_);cases h;exact⟨1,List.map M.dO.en p0,true,(by simp+decide only[LQ,F,reduceIte,Nat.reduceAdd,qB,qC,M.dO.en,b3]),.inl ⟨(by simp+decide [Bh,LQ,b3]),rfl⟩⟩
 replace h:=bF b3 h
 refine Dk (by simp+decide only[LQ,F,reduceIte,Nat.reduceAdd,qB,qC,b3]) ?_
 refine sk (an (sq (sq ?_)))
 apply bE
 ·simp+decide only[LQ,E,reduceIte,Nat.reduceAdd,Nat.reduceMul,qB,qC,L,EN,b3];exact Is.mk _
 refine an (bk ?_)
 refine Hv (λm s=>∃v5:Int,∃v6:Int,∃aa:List M.dO,s.t 0=.v false [.row 7059000 1]/\s.t 1=.v false [.dat (.fn f1_ k1_)]/\s.t 5=.v false [.dat (.int .i64 v5)]/\s.t 6=.v false [.dat (.int .i64 v6)]/\s.h 7059000=(1,.row 196 4 (List.map M.dO.en aa) true)/\bX p1 m v5 v6 aa=some r) fuel ?_ ?_
 ·refine⟨x1,i64.wrap (x1+1),p0,?_,?_,?_,?_,?_,h⟩;all_goals simp+decide only[LQ,F,reduceIte,Nat.reduceAdd,qB,qC,M.dO.en,b3]
 rintro mL1 s4 ⟨v5,v6,aa,f5,f6,f7,f8,f9,h⟩
 rcases mL1 with _|mL1
 ·exact absurd h (by simp[bX])
 simp only[bX]at h
 refine sq (sq ?_)
 apply bE
 ·simp+decide only[LQ,E,reduceIte,Nat.reduceAdd,Nat.reduceMul,qB,qC,L,Xq,EN,b3,f5,f6,f7,f8,f9];exact Is.mk _
 refine an ?_
 rcases Cw (decide (v6<(List.length aa:Int)))with ae|ae
 ·replace h:=bF ae h
  refine Dk (by simp+decide only[LQ,F,reduceIte,Nat.reduceAdd,qB,qC,b3,f5,f6,f7,f8,f9,ae]) ?_
  refine xt (EP (EF (Js (an (sq ?_)))))
  obtain⟨az,j,h⟩:=bind_some h
  apply bE
  ·simp+decide only[LQ,E,reduceIte,Nat.reduceAdd,Nat.reduceMul,qB,qC,<-List.map_take,<-List.map_drop,L,Xq,MC,M.dO.en,EN,b3,f5,f6,f7,f8,f9,ae]
   refine⟨by first|exact AZ j|exact(AZ j).2|exact(AZ j).2.2,?_⟩
   try simp+decide only[LQ,E,reduceIte,Nat.reduceAdd,Nat.reduceMul,qB,qC,<-List.map_take,<-List.map_drop,L,Xq,MC,M.dO.en,EN,b3,f5,f6,f7,f8,f9,ae]
   refine⟨by first|exact F8 j|exact(F8 j).2|exact(F8 j).2.2|(have hb:=F8 j;simpa using hb),?_⟩
   try simp+decide only[LQ,E,reduceIte,Nat.reduceAdd,Nat.reduceMul,qB,qC,<-List.map_take,<-List.map_drop,L,Xq,MC,M.dO.en,EN,b3,f5,f6,f7,f8,f9,ae]
   exact Is.mk _
  refine an (sq ?_)
  apply bE
  ·simp+decide only[LQ,E,reduceIte,Nat.reduceAdd,Nat.reduceMul,qB,qC,<-List.map_take,<-List.map_drop,L,Xq,MC,M.dO.en,EN,b3,f5,f6,f7,f8,f9,ae]
   refine⟨by first|exact Hj (f:=M.dO.en) j|exact(Hj (f:=M.dO.en) j).2|exact(Hj (f:=M.dO.en) j).2.2|(have hb:=Hj (f:=M.dO.en) j;simpa using hb),?_⟩
   try simp+decide only[LQ,E,reduceIte,Nat.reduceAdd,Nat.reduceMul,qB,qC,<-List.map_take,<-List.map_drop,L,Xq,MC,M.dO.en,EN,b3,f5,f6,f7,f8,f9,ae]
   exact Is.mk _
  refine an (rt ?_)
  cases h
  have hb:=Hj (f:=M.dO.en) (r:=[.opq,.opq,.opq,.opq]) j
  exact⟨1,List.map M.dO.en (List.take v5.toNat aa)++List.replicate (List.length aa-v5.toNat) [.opq,.opq,.opq,.opq],true,(by simp+decide only[LQ,F,reduceIte,Nat.reduceAdd,qB,qC,b3,f5,f6,f7,f8,f9,ae]),.inr ⟨v5.toNat,(by simp+decide [Bh,LQ,b3,f5,f6,f7,f8,f9,ae]),hb.2,RI j⟩⟩
 replace h:=bG ae h
 refine CE (by simp+decide only[LQ,F,reduceIte,Nat.reduceAdd,qB,qC,b3,f5,f6,f7,f8,f9,ae]) ?_
 refine sk (an (sq (bk (sq ?_))))
 obtain⟨ar,aw,h⟩:=bind_some h
 obtain⟨C,I,U⟩:=rR aw
 apply bE
 ·simp+decide only[LQ,E,reduceIte,Nat.reduceAdd,Nat.reduceMul,qB,qC,L,Xq,MC,M.dO.en,EN,b3,f5,f6,f7,f8,f9,ae,C,I,U];exact Is.mk _
 refine an (sq ?_)
 obtain⟨av,ax,h⟩:=bind_some h
 apply bE
 ·simp+decide only[LQ,E,reduceIte,Nat.reduceAdd,Nat.reduceMul,qB,qC,L,MC,EN,b3,f5,f6,f7,f8,f9,ae,C,I,U]
  refine⟨_,hp1 ar av ax,?_⟩
  try simp+decide only[LQ,E,reduceIte,Nat.reduceAdd,Nat.reduceMul,qB,qC,L,MC,EN,b3,f5,f6,f7,f8,f9,ae,C,I,U]
  exact Is.mk _
 refine an ?_
 rcases Cw (!av)with ak|ak
 ·replace h:=bF ak h;refine Dk (by simp+decide only[LQ,F,reduceIte,Nat.reduceAdd,qB,qC,b3,f5,f6,f7,f8,f9,ae,C,I,U,ak]) ?_;refine sk (ab (an ?_));apply bE;(simp+decide only[LQ,E,reduceIte,Nat.reduceAdd,Nat.reduceMul,qB,qC,L,EN,b3,f5,f6,f7,f8,f9,ae,C,I,U,ak];exact Is.mk _);refine dV ⟨mL1,jF,v5,i64.wrap (v6+1),aa,?_,?_,?_,?_,?_,h⟩;all_goals simp+decide only[LQ,F,reduceIte,Nat.reduceAdd,qB,qC,M.dO.en,b3,f5,f6,f7,f8,f9,ae,C,I,U,ak]
 replace h:=bG ak h
 refine CE (by simp+decide only[LQ,F,reduceIte,Nat.reduceAdd,qB,qC,b3,f5,f6,f7,f8,f9,ae,C,I,U,ak]) ?_
 refine sq ?_
 obtain⟨ba,ay,h⟩:=bind_some h
 obtain⟨al,ao,aq⟩:=rR ay
 apply bE
 ·simp+decide only[LQ,E,reduceIte,Nat.reduceAdd,Nat.reduceMul,qB,qC,L,Xq,MC,M.dO.en,EN,b3,f5,f6,f7,f8,f9,ae,C,I,U,ak,al,ao,aq];exact Is.mk _
 refine an ?_
 refine eE (J:=λs=>s.t 0=.v false [.row 7059000 1]/\s.t 1=.v false [.dat (.fn f1_ k1_)]/\s.t 5=.v false [.dat (.int .i64 v5)]/\s.t 6=.v false [.dat (.int .i64 v6)]/\s.h 7059000=(1,.row 196 4 (List.map M.dO.en (List.set aa v5.toNat ar)) true)/\True) ?_ ?_
 ·and_intros<;>(try simp+decide only[LQ,F,reduceIte,Nat.reduceAdd,qB,qC,M.dO.en,b3,f5,f6,f7,f8,f9,ae,C,I,U,ak,al,ao,aq])
 rintro bd f25
 apply bE
 ·simp+decide only[LQ,E,reduceIte,Nat.reduceAdd,Nat.reduceMul,qB,qC,L,EN,b3,ae,C,I,U,ak,al,ao,aq,f25];exact Is.mk _
 refine ab (an ?_)
 apply bE
 ·simp+decide only[LQ,E,reduceIte,Nat.reduceAdd,Nat.reduceMul,qB,qC,L,EN,b3,ae,C,I,U,ak,al,ao,aq,f25];exact Is.mk _
 refine dV ⟨mL1,jF,i64.wrap (v5+1),i64.wrap (v6+1),List.set aa v5.toNat ar,?_,?_,?_,?_,?_,h⟩
 all_goals simp+decide only[LQ,F,reduceIte,Nat.reduceAdd,qB,qC,M.dO.en,b3,ae,C,I,U,ak,al,ao,aq,f25]
theorem aGB(p0 r)(h:uS p0=some r):Sc 273 [aX (M.aM.en p0)] [(true,M.aM.rs r)]:=by
 have i1:=λ(x1:M.aM)=>inv λm s=>∃j:Int,∃C:List M.dO,(s.t 2=vP 2 1 0/\s.t 3=vP 3 1 0/\s.t 9=vI (List.length x1.aHR:Int)/\s.t 10=vI j/\s.h 2=(1,oB 51 [.nil])/\s.h 3=(1,oB 51 [.row 100006 1])/\s.h 100006=(1,oW 196 4 M.dO.en C))/\gV x1 m j C=some r
 have e1:=@gV.eq_2
 unfold uS at h
 exact sgo 30 [.cell 2 51] Tryz.func273
theorem aGQ(p0:List M.mI)(p1:M.mI->Option Bool)(f1_:FuncId)(k1_:List D)(hp1:∀z0 r,p1 z0=some r->gL Tryz.prog f1_ ((true,M.mI.en z0)::  k1_.map λc=>(false,[c])) [(false,[.ro (.bool r)])])(r:(List M.mI))(h:nA p0 p1=some r):gL Tryz.prog 274 [(false,[.sl (List.map M.mI.en p0)]),(false,[.fn f1_ k1_])] [(false,[.edit (.turn 199 3 (List.map M.mI.en r))])]:=by
 unfold nA at h
 refine VH (N:=42) (vars:=[.tmp 4]) Tryz.func274 rfl rfl rfl jJ jI (M.mI.en.fl _) (M.mI.en.fl _) (λy hy=>by obtain⟨x,_,rfl⟩:=qx.1 hy;rfl) λbase wd=> ?_
 refine sq ?_
 apply bE
 ·simp+decide only[LQ,E,reduceIte,Nat.reduceAdd,Nat.reduceMul,qB,qC,L,EN];exact Is.mk _
 refine an (sq ?_)
 obtain⟨x1,h2,h⟩:=bind_some h
 apply bE
 ·simp+decide only[LQ,E,reduceIte,Nat.reduceAdd,Nat.reduceMul,qB,qC,L,EN]
  refine⟨_,aGH p0 p1 f1_ k1_ hp1 x1 h2,?_⟩
  try simp+decide only[LQ,E,reduceIte,Nat.reduceAdd,Nat.reduceMul,qB,qC,L,EN]
  exact Is.mk _
 refine an (sq (sq ?_))
 apply bE
 ·simp+decide only[LQ,E,reduceIte,Nat.reduceAdd,Nat.reduceMul,qB,qC,L,EN];exact Is.mk _
 refine an ?_
 rcases dP (x1==(-1))with b3|b3
 ·replace h:=bG b3 h;refine CE (by simp+decide only[LQ,F,reduceIte,Nat.reduceAdd,qB,qC,b3]) ?_;refine sq ?_;apply bE;(simp+decide only[LQ,E,reduceIte,Nat.reduceAdd,Nat.reduceMul,qB,qC,L,EN,b3];exact Is.mk _);refine an (rt ?_);cases h;exact⟨1,List.map M.mI.en p0,true,(by simp+decide only[LQ,F,reduceIte,Nat.reduceAdd,qB,qC,M.mI.en,b3]),.inl ⟨(by simp+decide [Bh,LQ,b3]),rfl⟩⟩
 replace h:=bF b3 h
 refine Dk (by simp+decide only[LQ,F,reduceIte,Nat.reduceAdd,qB,qC,b3]) ?_
 refine sk (an (sq (sq ?_)))
 apply bE
 ·simp+decide only[LQ,E,reduceIte,Nat.reduceAdd,Nat.reduceMul,qB,qC,L,EN,b3];exact Is.mk _
 refine an (bk ?_)
 refine Hv (λm s=>∃v5:Int,∃v6:Int,∃aa:List M.mI,s.t 0=.v false [.row 7059000 1]/\s.t 1=.v false [.dat (.fn f1_ k1_)]/\s.t 5=.v false [.dat (.int .i64 v5)]/\s.t 6=.v false [.dat (.int .i64 v6)]/\s.h 7059000=(1,.row 199 3 (List.map M.mI.en aa) true)/\bY p1 m v5 v6 aa=some r) fuel ?_ ?_
 ·refine⟨x1,i64.wrap (x1+1),p0,?_,?_,?_,?_,?_,h⟩;all_goals simp+decide only[LQ,F,reduceIte,Nat.reduceAdd,qB,qC,M.mI.en,b3]
 rintro mL1 s4 ⟨v5,v6,aa,f5,f6,f7,f8,f9,h⟩
 rcases mL1 with _|mL1
 ·exact absurd h (by simp[bY])
 simp only[bY]at h
 refine sq (sq ?_)
 apply bE
 ·simp+decide only[LQ,E,reduceIte,Nat.reduceAdd,Nat.reduceMul,qB,qC,L,Wi,EN,b3,f5,f6,f7,f8,f9];exact Is.mk _
 refine an ?_
 rcases Cw (decide (v6<(List.length aa:Int)))with ae|ae
 ·replace h:=bF ae h
  refine Dk (by simp+decide only[LQ,F,reduceIte,Nat.reduceAdd,qB,qC,b3,f5,f6,f7,f8,f9,ae]) ?_
  refine xt (EP (EF (Js (an (sq ?_)))))
  obtain⟨az,j,h⟩:=bind_some h
  apply bE
  ·simp+decide only[LQ,E,reduceIte,Nat.reduceAdd,Nat.reduceMul,qB,qC,<-List.map_take,<-List.map_drop,L,Wi,MF,M.mI.en,EN,b3,f5,f6,f7,f8,f9,ae]
   refine⟨by first|exact AZ j|exact(AZ j).2|exact(AZ j).2.2,?_⟩
   try simp+decide only[LQ,E,reduceIte,Nat.reduceAdd,Nat.reduceMul,qB,qC,<-List.map_take,<-List.map_drop,L,Wi,MF,M.mI.en,EN,b3,f5,f6,f7,f8,f9,ae]
   refine⟨by first|exact F8 j|exact(F8 j).2|exact(F8 j).2.2|(have hb:=F8 j;simpa using hb),?_⟩
   try simp+decide only[LQ,E,reduceIte,Nat.reduceAdd,Nat.reduceMul,qB,qC,<-List.map_take,<-List.map_drop,L,Wi,MF,M.mI.en,EN,b3,f5,f6,f7,f8,f9,ae]
   exact Is.mk _
  refine an (sq ?_)
  apply bE
  ·simp+decide only[LQ,E,reduceIte,Nat.reduceAdd,Nat.reduceMul,qB,qC,<-List.map_take,<-List.map_drop,L,Wi,MF,M.mI.en,EN,b3,f5,f6,f7,f8,f9,ae]
   refine⟨by first|exact Hj (f:=M.mI.en) j|exact(Hj (f:=M.mI.en) j).2|exact(Hj (f:=M.mI.en) j).2.2|(have hb:=Hj (f:=M.mI.en) j;simpa using hb),?_⟩
   try simp+decide only[LQ,E,reduceIte,Nat.reduceAdd,Nat.reduceMul,qB,qC,<-List.map_take,<-List.map_drop,L,Wi,MF,M.mI.en,EN,b3,f5,f6,f7,f8,f9,ae]
   exact Is.mk _
  refine an (rt ?_)
  cases h
  have hb:=Hj (f:=M.mI.en) (r:=[.opq,.opq,.opq]) j
  exact⟨1,List.map M.mI.en (List.take v5.toNat aa)++List.replicate (List.length aa-v5.toNat) [.opq,.opq,.opq],true,(by simp+decide only[LQ,F,reduceIte,Nat.reduceAdd,qB,qC,b3,f5,f6,f7,f8,f9,ae]),.inr ⟨v5.toNat,(by simp+decide [Bh,LQ,b3,f5,f6,f7,f8,f9,ae]),hb.2,RI j⟩⟩
 replace h:=bG ae h
 refine CE (by simp+decide only[LQ,F,reduceIte,Nat.reduceAdd,qB,qC,b3,f5,f6,f7,f8,f9,ae]) ?_
 refine sk (an (sq (bk (sq ?_))))
 obtain⟨ar,aw,h⟩:=bind_some h
 obtain⟨C,I,U⟩:=rR aw
 apply bE
 ·simp+decide only[LQ,E,reduceIte,Nat.reduceAdd,Nat.reduceMul,qB,qC,L,Wi,MF,M.mI.en,EN,b3,f5,f6,f7,f8,f9,ae,C,I,U];exact Is.mk _
 refine an (sq ?_)
 obtain⟨av,ax,h⟩:=bind_some h
 apply bE
 ·simp+decide only[LQ,E,reduceIte,Nat.reduceAdd,Nat.reduceMul,qB,qC,L,MF,EN,b3,f5,f6,f7,f8,f9,ae,C,I,U]
  refine⟨_,hp1 ar av ax,?_⟩
  try simp+decide only[LQ,E,reduceIte,Nat.reduceAdd,Nat.reduceMul,qB,qC,L,MF,EN,b3,f5,f6,f7,f8,f9,ae,C,I,U]
  exact Is.mk _
 refine an ?_
 rcases Cw (!av)with ak|ak
 ·replace h:=bF ak h;refine Dk (by simp+decide only[LQ,F,reduceIte,Nat.reduceAdd,qB,qC,b3,f5,f6,f7,f8,f9,ae,C,I,U,ak]) ?_;refine sk (ab (an ?_));apply bE;(simp+decide only[LQ,E,reduceIte,Nat.reduceAdd,Nat.reduceMul,qB,qC,L,EN,b3,f5,f6,f7,f8,f9,ae,C,I,U,ak];exact Is.mk _);refine dV ⟨mL1,jF,v5,i64.wrap (v6+1),aa,?_,?_,?_,?_,?_,h⟩;all_goals simp+decide only[LQ,F,reduceIte,Nat.reduceAdd,qB,qC,M.mI.en,b3,f5,f6,f7,f8,f9,ae,C,I,U,ak]
 replace h:=bG ak h
 refine CE (by simp+decide only[LQ,F,reduceIte,Nat.reduceAdd,qB,qC,b3,f5,f6,f7,f8,f9,ae,C,I,U,ak]) ?_
 refine sq ?_
 obtain⟨ba,ay,h⟩:=bind_some h
 obtain⟨al,ao,aq⟩:=rR ay
 apply bE
 ·simp+decide only[LQ,E,reduceIte,Nat.reduceAdd,Nat.reduceMul,qB,qC,L,Wi,MF,M.mI.en,EN,b3,f5,f6,f7,f8,f9,ae,C,I,U,ak,al,ao,aq];exact Is.mk _
 refine an ?_
 refine eE (J:=λs=>s.t 0=.v false [.row 7059000 1]/\s.t 1=.v false [.dat (.fn f1_ k1_)]/\s.t 5=.v false [.dat (.int .i64 v5)]/\s.t 6=.v false [.dat (.int .i64 v6)]/\s.h 7059000=(1,.row 199 3 (List.map M.mI.en (List.set aa v5.toNat ar)) true)/\True) ?_ ?_
 ·and_intros<;>(try simp+decide only[LQ,F,reduceIte,Nat.reduceAdd,qB,qC,M.mI.en,b3,f5,f6,f7,f8,f9,ae,C,I,U,ak,al,ao,aq])
 rintro bd f25
 apply bE
 ·simp+decide only[LQ,E,reduceIte,Nat.reduceAdd,Nat.reduceMul,qB,qC,L,EN,b3,ae,C,I,U,ak,al,ao,aq,f25];exact Is.mk _
 refine ab (an ?_)
 apply bE
 ·simp+decide only[LQ,E,reduceIte,Nat.reduceAdd,Nat.reduceMul,qB,qC,L,EN,b3,ae,C,I,U,ak,al,ao,aq,f25];exact Is.mk _
 refine dV ⟨mL1,jF,i64.wrap (v5+1),i64.wrap (v6+1),List.set aa v5.toNat ar,?_,?_,?_,?_,?_,h⟩
 all_goals simp+decide only[LQ,F,reduceIte,Nat.reduceAdd,qB,qC,M.mI.en,b3,ae,C,I,U,ak,al,ao,aq,f25]
