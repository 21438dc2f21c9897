/-
  Helper text. No conditions.
-/
import Derived.Test.YtbpbocchokbggaaGreatUpdatesTi
set_option linter.all false
namespace Go.Proofs.YtbpbocchokbggaaGreat.gen
open Go Go.Sh
set_option maxRecDepth 20000
set_option maxHeartbeats 4000000
instance UE:bE 126 (∀p0 p1 p2 r (h:aY p0 p1 p2=some r),Sc 126 [aI p0,aI p1,aI p2] [rB r]):=⟨λp0 p1 p2 r h=>by unfold aY at h;exact sgo 15 [.tmp 6] Tryz.func126⟩
instance:bE 123 (∀r (h:vW=some r),Sc 123 [] [rW 9 1 enS r]):=⟨λr h=>by unfold vW at h;exact sgo 2 [.tmp 0] Tryz.func123⟩
instance:bE 373 (∀p0 r (h:A6 p0=some r),Sc 373 [aI p0] [(true,M.World.rs r)]):=⟨λp0 r h=>by
 have i1:=λ(x4:(List ByteArray))=>E5 [.b 3 8 7050000 92 4,.b 3 9 7050001 205 5] λm s=>∃v5:Int,∃aa:List M.aI7,∃ae:List M.aJC,∃af:Nat,∃ah:Nat,(s.t 2=vP 2 1 0/\s.t 3=vP 3 1 0/\s.t 4=vR 100012 1/\s.t 5=vI v5/\s.h 2=(1,Q6)/\s.h 3=(1,oB 58 [cI 0,cB true,cI p0,.nil,.nil,cI 1,.nil,.nil,.row 7050000 af,.row 7050001 ah])/\s.h 100012=(1,oW 9 1 enS x4)/\s.h 7050000=(af,oW 92 4 M.aI7.en aa)/\s.h 7050001=(ah,oW 205 5 M.aJC.en ae))/\AV p0 x4 m v5 aa ae=some r
 have e1:=@AV.eq_2
 unfold A6 at h
 exact sgo 43 [.cell 2 58] Tryz.func373⟩
instance aBq:bE 267 (∀p0 r (h:cE p0=some r),Sc 267 [aS p0] [rB r]):=⟨λp0 r h=>by
 have i1:=inv λm s=>∃v3:Int,(s.t 0=vS p0/\s.t 3=vI v3)/\pL p0 m v3=some r
 have e1:=@pL.eq_2
 unfold cE at h
 exact sgo 23 [.tmp 2] Tryz.func267⟩
instance:bE 122 (∀p0 r (h:uM p0=some r),Sc 122 [aX (M.aI7.en p0)] [rB r]):=⟨λp0 r h=>by
 have i1:=inv λm s=>∃v3:Int,(s.t 1=vP 1 1 0/\s.t 3=vI v3/\s.h 1=(1,oX 92 (M.aI7.en p0)))/\mC p0 m v3=some r
 have e1:=@mC.eq_2
 unfold uM at h
 exact sgo 50 [.tmp 2] Tryz.func122⟩
instance:bE 496 (∀p0 r (h:Bp p0=some r),Sc 496 [aS p0] [rB r]):=⟨λp0 r h=>by
 have i1:=inv λm s=>∃v3:Int,(s.t 0=vS p0/\s.t 3=vI v3)/\jX p0 m v3=some r
 have e1:=@jX.eq_2
 unfold Bp at h
 exact sgo 35 [.tmp 2] Tryz.func496⟩
instance:bE 407 (∀p0 r (h:fU p0=some r),Sc 407 [aX (M.Key.en p0)] [rB r]):=⟨λp0 r h=>by unfold fU at h;exact sgo 36 [.tmp 2] Tryz.func407⟩
instance:bE 268 (∀p0 r (h:lA p0=some r),Sc 268 [aX (M.bC.en p0)] [rB r]):=⟨λp0 r h=>by unfold lA at h;exact sgo 26 [.tmp 2] Tryz.func268⟩
instance:bE 169 (∀p0 r (h:bL p0=some r),Sc 169 [aX (M.aE.en p0)] [rB r]):=⟨λp0 r h=>by
 have i1:=inv λm s=>∃v3:Int,(s.t 1=vP 1 1 0/\s.t 3=vI v3/\s.h 1=(1,oX 129 (M.aE.en p0)))/\iF p0 m v3=some r
 have e1:=@iF.eq_2
 unfold bL at h
 exact sgo 53 [.tmp 2] Tryz.func169⟩
instance:bE 497 (∀p0 p1 r (h:Br p0 p1=some r),Sc 497 [aB p0,aB p1] [rI r]):=⟨λp0 p1 r h=>by unfold Br at h;exact sgo 7 [.tmp 4] Tryz.func497⟩
instance:bE 408 (∀p0 p1 r (h:bI p0 p1=some r),Sc 408 [aX (M.Key.en p0),aX (M.Key.en p1)] [rI r]):=⟨λp0 p1 r h=>by unfold bI at h;exact sgo 46 [.tmp 4] Tryz.func408⟩
instance:bE 125 (∀p0 r (h:uN p0=some r),Sc 125 [aX (M.bG.en p0)] [rB r]):=⟨λp0 r h=>by
 have i1:=inv λm s=>∃v3:Int,(s.t 1=vP 1 1 0/\s.t 3=vI v3/\s.h 1=(1,oX 67 (M.bG.en p0)))/\tK p0 m v3=some r
 have e1:=@tK.eq_2
 unfold uN at h
 exact sgo 54 [.tmp 2] Tryz.func125⟩
instance:bE 287 (∀p0 r (h:cG p0=some r),Sc 287 [aX (M.aIz.en p0)] [rB r]):=⟨λp0 r h=>by
 unfold cG at h
 simp only[EN]
 refine sgn 52 [.tmp 2] Tryz.func287 λbase wd => ?_
 refine sq (rn ?_)
 refine an (sq (rn ?_))
 refine an (sq (rn ?_))
 refine an (sq (sq ?_))
 refine cu (λs=>s.t 1=vP 1 1 0/\s.t 3=vI 0/\s.t 4=vR 100012 1/\s.h 1=(1,oX 105 (M.aIz.en p0))/\s.h 100012=(1,oW 3 1 enI ([p0.aJX,p0.aJT,p0.aJP]))/\True) ?_
 rintro s1 f2
 refine rn ?_
 refine an (bk ?_)
 refine JX (λm s=>∃v3:Int,∃v5:Int,s.t 1=vP 1 1 0/\s.t 3=vI v3/\s.t 4=vR 100012 1/\s.t 5=vI v5/\s.h 1=(1,oX 105 (M.aIz.en p0))/\s.h 100012=(1,oW 3 1 enI ([p0.aJX,p0.aJT,p0.aJP]))/\bW p0 m v3 v5=some r) fuel ?_ ?_
 ·refine⟨0,0,?_,?_,?_,?_,?_,?_,h⟩;all_goals simp +decide only[F,reduceIte,Nat.reduceAdd,qB,qC,EN, *,-h]
 rintro mL1 s7 ⟨v3,v5,f8,f9,f10,f11,f12,f13,h⟩
 rcases mL1 with _ | mL1
 ·exact absurd h (by simp[bW])
 simp only[bW]at h
 refine sq (sq (rn ?_))
 refine an ?_
 rcases C1 (decide (v5<((3:Nat):Int)))with ae | ae
 ·replace h:=bY ae h;refine cf (xt (Gn (Gg (Lk (an (sq ?_))))));obtain⟨ar,ak,h⟩:=bind_some h;refine rn1 (aBq.1 _ _ ak) ?_;refine an (rt ?_);cases h;simp[Ret,TB,EN, *]
 replace h:=bZ ae h
 refine ct (sk (an (sq (bk (sq (sq ?_))))))
 obtain⟨aa,al,h⟩:=bind_some h
 obtain⟨av,aw,ao⟩:=wM al
 have q17m:=congrArg (Option.map enI) (show([p0.aJX,p0.aJT,p0.aJP])[v5.toNat]? = some aa by assumption)
 simp only[<-List.getElem?_map,List.map_cons,List.map_nil,Option.map_some,EN]at q17m
 simp only[qJ,qK,Nat.reduceAdd]at ao
 obtain⟨aq,af,h⟩:=bind_some h
 rcases mT (!aq)with ah | ah
 ·replace h:=bZ ah h;refine rn1 (UE.1 _ _ _ _ af) ?_;refine an (ct (sq (rn ?_)));refine an (rt ?_);cases h;simp[Ret,TB,EN, *]
 replace h:=bY ah h
 rcases C1 (aa != 0)with ai | ai
 ·replace h:=bY ai h;refine rn1 (UE.1 _ _ _ _ af) ?_;refine an (cf (sk (an (sq (rn ?_)))));refine an (cf (sk (ab (an (rn ?_)))));refine iU ⟨mL1,jB,v3,IntKind.i64.wrap (v5+1),?_,?_,?_,?_,?_,?_,h⟩;all_goals simp +decide only[F,reduceIte,Nat.reduceAdd,qB,qC,EN, *,-h]
 replace h:=bZ ai h
 refine rn1 (UE.1 _ _ _ _ af) ?_
 refine an ?_
 rcases mT (decide (aa<=v3))with aj | aj
 ·replace h:=bZ aj h;refine ct (sq (rn ?_));refine an (rt ?_);cases h;simp[Ret,TB,EN, *]
 replace h:=bY aj h
 refine cf (sk (an (sq (rn ?_))))
 refine an (ct (rn ?_))
 refine ab (an (rn ?_))
 refine iU ⟨mL1,jB,aa,IntKind.i64.wrap (v5+1),?_,?_,?_,?_,?_,?_,h⟩
 all_goals simp +decide only[F,reduceIte,Nat.reduceAdd,qB,qC,EN, *,-h]⟩
instance:bE 562 (∀p0 r (h:zP p0=some r),Sc 562 [aX (M.aI8.en p0)] [rB r]):=⟨λp0 r h=>by unfold zP at h;exact sgo 22 [.tmp 2] Tryz.func562⟩
instance:bE 485 (∀p0 r (h:uY p0=some r),Sc 485 [aL M.aJE.en p0] [rB r]):=⟨λp0 r h=>by
 have i1:=inv λm s=>∃v3:Int,(s.t 0=vL M.aJE.en p0/\s.t 3=vI v3)/\eZ p0 m v3=some r
 have e1:=@eZ.eq_2
 have i2:=λ(v3:Int) (x5:M.aJE) (ae:Int->Option Bool)=>inv λm s=>∃aa:Int,(s.t 0=vL M.aJE.en p0/\s.t 3=vI v3/\s.t 4=vI aa)/\hJ p0 v3 x5 ae m aa=some r
 have e2:=@hJ.eq_2
 unfold uY at h
 exact sgo 68 [.tmp 2] Tryz.func485⟩
instance:bE 315 (∀p0 r (h:lY p0=some r),Sc 315 [aX (M.Key.en p0)] [rW 5 1 enB r]):=⟨λp0 r h=>by
 have i1:=inv λm s=>∃v4:Int,∃aa:List Int,∃ae:Nat,(s.t 1=vP 1 1 0/\s.t 3=vR 100012 ae/\s.t 4=vI v4/\s.h 1=(1,oX 136 (M.Key.en p0))/\s.h 100012=(ae,oW 5 1 enB aa))/\bH p0 m v4 aa=some r
 have e1:=@bH.eq_2
 unfold lY at h
 exact sgo 38 [.tmp 2] Tryz.func315⟩
instance:bE 312 (∀p0 p1 r (h:bU p0 p1=some r),Sc 312 [aL enB p0,aI p1] [rW 5 1 enB r]):=⟨λp0 p1 r h=>by
 have i1:=inv λm s=>∃v1:Int,∃r6:List Int,∃u6:Nat,(s.t 1=vI v1/\s.t 5=vR 100006 u6/\s.h 100006=(u6,oW 5 1 enB r6))/\cY m v1 r6=some r
 have e1:=@cY.eq_2
 unfold bU at h
 exact sgo 29 [.tmp 4] Tryz.func312⟩
instance:bE 314 (∀p0 p1 r (h:bS p0 p1=some r),Sc 314 [aL enB p0,aL enB p1] [rW 5 1 enB r]):=⟨λp0 p1 r h=>by unfold bS at h;exact sgo 11 [.tmp 4] Tryz.func314⟩
instance:bE 270 (∀p0 r (h:yS p0=some r),Sc 270 [aS p0] [rB r]):=⟨λp0 r h=>by
 have i1:=inv λm s=>∃v3:Int,(s.t 0=vS p0/\s.t 3=vI v3)/\dY p0 m v3=some r
 have e1:=@dY.eq_2
 unfold yS at h
 exact sgo 29 [.tmp 2] Tryz.func270⟩
instance:bE 128 (∀p0 r (h:yF p0=some r),Sc 128 [aX (M.aQ.en p0)] [rB r]):=⟨λp0 r h=>by
 have i1:=inv λm s=>∃v3:Int,(s.t 1=vP 1 1 0/\s.t 3=vI v3/\s.h 1=(1,oX 51 (M.aQ.en p0)))/\fX p0 m v3=some r
 have e1:=@fX.eq_2
 have i2:=λ(v3:Int) (x6:M.mV) (ae:Int->Option Bool) (s1:St)=>inv λm s=>∃aa:Int,(s.t 1=vP 1 1 0/\s.t 3=vI v3/\s.t 4=vP 4 ((s1.h 4).1+1) 0/\s.t 5=vI aa/\s.h 1=(1,oX 51 (M.aQ.en p0))/\s.h 4=((s1.h 4).1+1,oX 196 (M.mV.en x6)))/\cZ p0 v3 x6 ae m aa=some r
 have e2:=@cZ.eq_2
 unfold yF at h
 exact sgo 67 [.tmp 2] Tryz.func128⟩
instance c31:bE 31 (∀p0 r (h:gZ p0=some r),Sc 31 [aS p0] [rI r]):=⟨λp0 r h=>by
 have i1:=λ(x1:(List ByteArray))=>inv λm s=>∃v4:Int,(s.t 0=vS p0/\s.t 3=vR 100005 1/\s.t 4=vI v4/\s.h 100005=(1,oW 9 1 enS x1))/\kZ p0 x1 m v4=some r
 have e1:=@kZ.eq_2
 unfold gZ at h
 exact sgo 19 [.tmp 2] Tryz.func31⟩
instance:bE 490 (∀p0 p1 r (h:yH p0 p1=some r),Sc 490 [aX (M.Instr.en p0),aI p1] [rB r]):=⟨λp0 p1 r h=>by
 unfold yH at h
 simp only[EN]
 refine sgn 74 [.tmp 4] Tryz.func490 λbase wd => ?_
 refine sq (rn ?_)
 refine an ?_
 obtain⟨x1,h2,h⟩:=bind_some h
 refine wJ (λs=>s.t 1=vI p1/\s.t 2=vP 2 1 0/\s.t 5=vB x1/\s.h 2=(1,oX 308 (M.Instr.en p0))/\True) ?_ ?_
 ·replace h:=h2;clear h2;rcases mT (p0.aJS==5)with b8 | b8;(replace h:=bZ b8 h;refine rn ?_;cases h;refine iU ⟨?_,?_,?_,?_,trivial⟩<;>(try simp +decide only[F,reduceIte,Nat.reduceAdd,qB,qC,EN, *,-h]));replace h:=bY b8 h;obtain⟨x9,bt,h⟩:=bind_some h;refine rn1 (UE.1 _ _ _ _ bt) ?_;cases h;refine iU ⟨?_,?_,?_,?_,trivial⟩<;>(try simp +decide only[F,reduceIte,Nat.reduceAdd,qB,qC,EN, *,-h])
 clear h2
 rintro s3 f4
 refine sq (rn ?_)
 refine an ?_
 obtain⟨bu,aa,h⟩:=bind_some h
 refine wJ (λs=>s.t 2=vP 2 1 0/\s.t 5=vB x1/\s.t 6=vI bu/\s.h 2=(1,oX 308 (M.Instr.en p0))/\True) ?_ ?_
 ·replace h:=aa;clear aa;refine sq (rn ?_);refine an (bk (sq (rn ?_)));refine an ?_;rcases mT (p0.aJS==1)with ae | ae;(replace h:=bZ ae h;refine ct (rn ?_);refine ab ?_;cases h;refine iU ⟨?_,?_,?_,?_,trivial⟩<;>(try simp +decide only[F,reduceIte,Nat.reduceAdd,qB,qC,EN, *,-h]));replace h:=bY ae h;refine cf (sq (rn ?_));refine an ?_;rcases mT (p0.aJS==2)with af | af;(replace h:=bZ af h;refine ct (rn ?_);refine ab ?_;cases h;refine iU ⟨?_,?_,?_,?_,trivial⟩<;>(try simp +decide only[F,reduceIte,Nat.reduceAdd,qB,qC,EN, *,-h]));replace h:=bY af h;refine cf ?_;obtain⟨bl,ah,h⟩:=bind_some h;refine wJ (λs=>s.t 1=vI p1/\s.t 2=vP 2 1 0/\s.t 5=vB x1/\s.t 6=vI 0/\s.t 16=vI p0.aJS/\s.t 21=vB bl/\s.h 2=(1,oX 308 (M.Instr.en p0))/\True) ?_ ?_;(replace h:=ah;clear ah;refine sq (rn ?_);refine an ?_;rcases mT (p0.aJS==3)with ai | ai;(replace h:=bZ ai h;refine ct (sk ?_);cases h;refine iU ⟨?_,?_,?_,?_,?_,?_,?_,trivial⟩<;>(try simp +decide only[F,reduceIte,Nat.reduceAdd,qB,qC,EN, *,-h]));replace h:=bY ai h;refine cf (rn ?_);cases h;refine iU ⟨?_,?_,?_,?_,?_,?_,?_,trivial⟩<;>(try simp +decide only[F,reduceIte,Nat.reduceAdd,qB,qC,EN, *,-h]));clear ah;rintro cc f23;rcases mT bl with aj | aj;(replace h:=bZ aj h;refine ct (rn ?_);refine ab ?_;cases h;refine iU ⟨?_,?_,?_,?_,trivial⟩<;>(try simp +decide only[F,reduceIte,Nat.reduceAdd,qB,qC,EN, *,-h]));replace h:=bY aj h;refine cf ?_;obtain⟨bm,ak,h⟩:=bind_some h;refine wJ (λs=>s.t 2=vP 2 1 0/\s.t 5=vB x1/\s.t 6=vI 0/\s.t 25=vB bm/\s.h 2=(1,oX 308 (M.Instr.en p0))/\True) ?_ ?_;(replace h:=ak;clear ak;refine sq (rn ?_);refine an ?_;rcases mT (p0.aJS==6)with al | al;(replace h:=bZ al h;refine ct (sk ?_);cases h;refine iU ⟨?_,?_,?_,?_,?_,trivial⟩<;>(try simp +decide only[F,reduceIte,Nat.reduceAdd,qB,qC,EN, *,-h]));replace h:=bY al h;refine cf (sq (rn ?_));refine an ?_;rcases mT (p0.aJS==7)with ao | ao;(replace h:=bZ ao h;refine ct (sk ?_);cases h;refine iU ⟨?_,?_,?_,?_,?_,trivial⟩<;>(try simp +decide only[F,reduceIte,Nat.reduceAdd,qB,qC,EN, *,-h]));replace h:=bY ao h;refine cf (rn ?_);cases h;refine iU ⟨?_,?_,?_,?_,?_,trivial⟩<;>(try simp +decide only[F,reduceIte,Nat.reduceAdd,qB,qC,EN, *,-h]));clear ak;rintro cd f35;rcases C1 bm with aq | aq;(replace h:=bY aq h;refine cf (sk (ab ?_));cases h;refine iU ⟨?_,?_,?_,?_,trivial⟩<;>(try simp +decide only[F,reduceIte,Nat.reduceAdd,qB,qC,EN, *,-h]));replace h:=bZ aq h;refine ct (rn ?_);refine ab ?_;cases h;refine iU ⟨?_,?_,?_,?_,trivial⟩<;>(try simp +decide only[F,reduceIte,Nat.reduceAdd,qB,qC,EN, *,-h])
 clear aa
 rintro cg f14
 refine sq ?_
 obtain⟨bn,ar,h⟩:=bind_some h
 refine wJ (λs=>s.t 2=vP 2 1 0/\s.t 5=vB x1/\s.t 45=vB bn/\s.h 2=(1,oX 308 (M.Instr.en p0))/\True) ?_ ?_
 ·replace h:=ar;clear ar;obtain⟨bw,av,h⟩:=bind_some h;rcases mT (!bw)with aw | aw;(replace h:=bZ aw h;refine rn1 (UE.1 _ _ _ _ av) ?_;cases h;refine iU ⟨?_,?_,?_,?_,trivial⟩<;>(try simp +decide only[F,reduceIte,Nat.reduceAdd,qB,qC,EN, *,-h]));replace h:=bY aw h;obtain⟨bx,bo,h⟩:=bind_some h;rcases mT (!bx)with ax | ax;(replace h:=bZ ax h;refine rn2 (UE.1 _ _ _ _ av) (UE.1 _ _ _ _ bo) ?_;cases h;refine iU ⟨?_,?_,?_,?_,trivial⟩<;>(try simp +decide only[F,reduceIte,Nat.reduceAdd,qB,qC,EN, *,-h]));replace h:=bY ax h;obtain⟨cj,bz,h⟩:=bind_some h;refine rn3 (UE.1 _ _ _ _ av) (UE.1 _ _ _ _ bo) (UE.1 _ _ _ _ bz) ?_;cases h;refine iU ⟨?_,?_,?_,?_,trivial⟩<;>(try simp +decide only[F,reduceIte,Nat.reduceAdd,qB,qC,EN, *,-h])
 clear ar
 rintro ck f46
 rcases mT bn with ay | ay
 ·replace h:=bZ ay h;refine ct (sq (rn ?_));refine an (rt ?_);cases h;simp[Ret,TB,EN, *]
 replace h:=bY ay h
 refine cf (sk (an (sq ?_)))
 obtain⟨bq,az,h⟩:=bind_some h
 refine wJ (λs=>s.t 2=vP 2 1 0/\s.t 5=vB x1/\s.t 58=vB bq/\s.h 2=(1,oX 308 (M.Instr.en p0))/\True) ?_ ?_
 ·replace h:=az;clear az;rcases mT (p0.aJS==4)with ba | ba;(replace h:=bZ ba h;refine rn ?_;cases h;refine iU ⟨?_,?_,?_,?_,trivial⟩<;>(try simp +decide only[F,reduceIte,Nat.reduceAdd,qB,qC,EN, *,-h]));replace h:=bY ba h;rcases mT (p0.aJS==9)with bd | bd;(replace h:=bZ bd h;refine rn ?_;cases h;refine iU ⟨?_,?_,?_,?_,trivial⟩<;>(try simp +decide only[F,reduceIte,Nat.reduceAdd,qB,qC,EN, *,-h]));replace h:=bY bd h;refine rn ?_;cases h;refine iU ⟨?_,?_,?_,?_,trivial⟩<;>(try simp +decide only[F,reduceIte,Nat.reduceAdd,qB,qC,EN, *,-h])
 clear az
 rintro cl f62
 rcases mT bq with bf | bf
 ·replace h:=bZ bf h;refine ct (sq (rn ?_));refine an (rt ?_);cases h;simp[Ret,TB,EN, *]
 replace h:=bY bf h
 refine cf (sk (an ?_))
 obtain⟨c9,bg,h⟩:=bind_some h
 refine wJ (λs=>s.t 4=vB c9/\True) ?_ ?_
 ·replace h:=bg;clear bg;rcases C1 x1 with bh | bh;(replace h:=bY bh h;refine rn ?_;cases h;refine iU ⟨?_,trivial⟩<;>(try simp +decide only[F,reduceIte,Nat.reduceAdd,qB,qC,EN, *,-h]));replace h:=bZ bh h;obtain⟨ca,br,h⟩:=bind_some h;rcases mT ca with bj | bj;(replace h:=bZ bj h;refine rn1 (aBq.1 _ _ br) ?_;cases h;refine iU ⟨?_,trivial⟩<;>(try simp +decide only[F,reduceIte,Nat.reduceAdd,qB,qC,EN, *,-h]));replace h:=bY bj h;refine rn1 (aBq.1 _ _ br) ?_;cases h;refine iU ⟨?_,trivial⟩<;>(try simp +decide only[F,reduceIte,Nat.reduceAdd,qB,qC,EN, *,-h])
 clear bg
 rintro cn ⟨f72,_⟩
 refine rt ?_
 cases h
 simp[Ret,TB,EN, *]⟩
instance:bE 518 (∀p0 p1 r (h:E9 p0 p1=some r),Sc 518 [aI p0,aI p1] [rI r]):=⟨λp0 p1 r h=>by unfold E9 at h;exact sgo 15 [.tmp 4] Tryz.func518⟩
instance:bE 436 (∀p0 r (h:C9 p0=some r),Sc 436 [aL enI p0] [rI r]):=⟨λp0 r h=>by
 have i1:=inv λm s=>∃v3:Int,∃v4:Int,(s.t 0=vL enI p0/\s.t 3=vI v3/\s.t 4=vI v4)/\yJ p0 m v3 v4=some r
 have e1:=@yJ.eq_2
 unfold C9 at h
 exact sgo 22 [.tmp 2] Tryz.func436⟩
instance:bE 510 (∀p0 r (h:wR p0=some r),Sc 510 [aL enB p0] [(true,M.Key.rs r.1),rB r.2]):=⟨λp0 r h=>by
 have i1:=λ(x2:Int)=>inv λm s=>∃v6:Int,∃v7:Int,(s.t 0=vL enB p0/\s.t 2=vP 2 1 0/\s.t 4=vP 4 1 0/\s.t 6=vI v6/\s.t 7=vI v7/\s.h 2=(1,oB 136 [cI 0,cI 0,cS (⟨#[]⟩:ByteArray)])/\s.h 4=(1,oB 136 [cI (IntKind.i64.wrap x2),cI 0,cS (⟨#[]⟩:ByteArray)]))/\mL p0 x2 m v6 v7=some r
 have e1:=@mL.eq_2
 unfold wR at h
 exact sgo 49 [.cell 2 136,.tmp 3] Tryz.func510⟩
