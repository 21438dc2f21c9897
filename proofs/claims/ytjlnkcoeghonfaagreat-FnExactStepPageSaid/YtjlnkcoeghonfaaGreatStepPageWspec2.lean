/-
  Helper text. No conditions.
-/
import Derived.Test.YtjlnkcoeghonfaaGreatStepPageWspec0
import Derived.Test.YtjlnkcoeghonfaaGreatStepPageWspec1
set_option linter.all false
namespace Go.Proofs.YtjlnkcoeghonfaaGreat.gen
open Go Go.Sh
set_option maxRecDepth 20000
set_option maxHeartbeats 4000000
instance:aZ 334 (∀p0 r (h:CN p0=some r),Sc 334 [aX (M.aO.en p0)] [(true,M.aO.rs r)]):=⟨λp0 r h=>by
 have i1:=Ni [.b 3 0 7050000 277 2] λm s=>∃v4:Int,∃aa:List M.aJs,∃ae:Nat,(s.t 1=vP 1 1 0/\s.t 2=vP 2 1 0/\s.t 3=vP 3 1 0/\s.t 4=vI v4/\s.h 1=(1,oX 66 (M.aO.en p0))/\s.h 2=(1,oB 66 [.nil])/\s.h 3=(1,oB 66 [.row 7050000 ae])/\s.h 7050000=(ae,oW 277 2 M.aJs.en aa))/\oM p0 m v4 aa=some r
 have e1:=@oM.eq_2
 unfold CN at h
 exact sgo 25 [.cell 2 66] Tryz.func334⟩
instance:aZ 224 (∀p0 r (h:dD p0=some r),Sc 224 [aX (M.aD.en p0)] [(true,M.aD.rs r)]):=⟨λp0 r h=>by
 have i1:=Ni [.b 3 1 7050000 320 4] λm s=>∃v4:Int,∃aa:List M.aJl,∃ae:Nat,(s.t 1=vP 1 1 0/\s.t 2=vP 2 1 0/\s.t 3=vP 3 1 0/\s.t 4=vI v4/\s.h 1=(1,oX 75 (M.aD.en p0))/\s.h 2=(1,oB 75 [cS (⟨#[]⟩:ByteArray),.nil,cI 0])/\s.h 3=(1,oB 75 [cS p0.Name,.row 7050000 ae,cI p0.aJ7])/\s.h 7050000=(ae,oW 320 4 M.aJl.en aa))/\rA p0 m v4 aa=some r
 have e1:=@rA.eq_2
 unfold dD at h
 exact sgo 29 [.cell 2 75] Tryz.func224⟩
instance:aZ 31 (∀p0 r (h:kH p0=some r),Sc 31 [aX (M.bD.en p0)] [(true,M.bD.rs r)]):=⟨λp0 r h=>by unfold kH at h;exact sgo 15 [.cell 2 91] Tryz.func31⟩
instance:aZ 88 (∀p0 r (h:zD p0=some r),Sc 88 [aX (M.aJj.en p0)] [rB r]):=⟨λp0 r h=>by
 have i1:=inv λm s=>∃v3:Int,(s.t 1=vP 1 1 0/\s.t 3=vI v3/\s.h 1=(1,oX 151 (M.aJj.en p0)))/\kO p0 m v3=some r
 have e1:=@kO.eq_2
 unfold zD at h
 exact sgo 50 [.tmp 2] Tryz.func88⟩
instance:aZ 205 (∀p0 r (h:nD p0=some r),Sc 205 [aX (M.aW.en p0)] [rB r]):=⟨λp0 r h=>by unfold nD at h;exact sgo 26 [.tmp 2] Tryz.func205⟩
instance:aZ 232 (∀p0 r (h:bS p0=some r),Sc 232 [aX (M.aA.en p0)] [rB r]):=⟨λp0 r h=>by
 have i1:=inv λm s=>∃v3:Int,(s.t 1=vP 1 1 0/\s.t 3=vI v3/\s.h 1=(1,oX 207 (M.aA.en p0)))/\gM p0 m v3=some r
 have e1:=@gM.eq_2
 unfold bS at h
 exact sgo 53 [.tmp 2] Tryz.func232⟩
instance:aZ 318 (∀p0 p1 r (h:bO p0 p1=some r),Sc 318 [aX (M.Key.en p0),aX (M.Key.en p1)] [rI r]):=⟨λp0 p1 r h=>by unfold bO at h;exact sgo 46 [.tmp 4] Tryz.func318⟩
instance:aZ 91 (∀p0 r (h:zJ p0=some r),Sc 91 [aX (M.bD.en p0)] [rB r]):=⟨λp0 r h=>by
 have i1:=inv λm s=>∃v3:Int,(s.t 1=vP 1 1 0/\s.t 3=vI v3/\s.h 1=(1,oX 91 (M.bD.en p0)))/\pW p0 m v3=some r
 have e1:=@pW.eq_2
 unfold zJ at h
 exact sgo 54 [.tmp 2] Tryz.func91⟩
instance:aZ 319 (∀p0 r (h:lX p0=some r),Sc 319 [aX (M.aJc.en p0)] [rB r]):=⟨λp0 r h=>by
 unfold lX at h
 simp only[EN]
 refine sgn 52 [.tmp 2] Tryz.func319 λbase wd => ?_
 refine sq (rn ?_)
 refine an (sq (rn ?_))
 refine an (sq (rn ?_))
 refine an (sq (sq ?_))
 refine cu (λs=>s.t 1=vP 1 1 0/\s.t 3=vI 0/\s.t 4=vR 100012 1/\s.h 1=(1,oX 63 (M.aJc.en p0))/\s.h 100012=(1,oW 3 1 enI ([p0.aKL,p0.aKE,p0.aJ9]))/\True) ?_
 rintro s1 f2
 refine rn ?_
 refine an (bk ?_)
 refine GD (λm s=>∃v3:Int,∃v5:Int,s.t 1=vP 1 1 0/\s.t 3=vI v3/\s.t 4=vR 100012 1/\s.t 5=vI v5/\s.h 1=(1,oX 63 (M.aJc.en p0))/\s.h 100012=(1,oW 3 1 enI ([p0.aKL,p0.aKE,p0.aJ9]))/\cJ p0 m v3 v5=some r) fuel ?_ ?_
 ·refine⟨0,0,?_,?_,?_,?_,?_,?_,h⟩;all_goals simp +decide only[F,reduceIte,Nat.reduceAdd,qB,qC,EN, *,-h]
 rintro mL1 s7 ⟨v3,v5,f8,f9,f10,f11,f12,f13,h⟩
 rcases mL1 with _ | mL1
 ·exact absurd h (by simp[cJ])
 simp only[cJ]at h
 refine sq (sq (rn ?_))
 refine an ?_
 rcases GB (decide (v5<((3:Nat):Int)))with ae | ae
 ·replace h:=bI ae h;refine cf (xt (EW (EP (It (an (sq ?_))))));obtain⟨ar,ak,h⟩:=bind_some h;refine rn1 (aAK.1 _ _ ak) ?_;refine an (rt ?_);cases h;simp[Ret,TB,EN, *]
 replace h:=bJ ae h
 refine ct (sk (an (sq (bk (sq (sq ?_))))))
 obtain⟨aa,al,h⟩:=bind_some h
 obtain⟨av,aw,ao⟩:=aU al
 have q17m:=congrArg (Option.map enI) (show([p0.aKL,p0.aKE,p0.aJ9])[v5.toNat]? = some aa by assumption)
 simp only[<-List.getElem?_map,List.map_cons,List.map_nil,Option.map_some,EN]at q17m
 simp only[qJ,qK,Nat.reduceAdd]at ao
 obtain⟨aq,af,h⟩:=bind_some h
 rcases cK (!aq)with ah | ah
 ·replace h:=bJ ah h;refine rn1 (c93.1 _ _ _ _ af) ?_;refine an (ct (sq (rn ?_)));refine an (rt ?_);cases h;simp[Ret,TB,EN, *]
 replace h:=bI ah h
 rcases GB (aa != 0)with ai | ai
 ·replace h:=bI ai h;refine rn1 (c93.1 _ _ _ _ af) ?_;refine an (cf (sk (an (sq (rn ?_)))));refine an (cf (sk (ab (an (rn ?_)))));refine jU ⟨mL1,jD,v3,IntKind.i64.wrap (v5+1),?_,?_,?_,?_,?_,?_,h⟩;all_goals simp +decide only[F,reduceIte,Nat.reduceAdd,qB,qC,EN, *,-h]
 replace h:=bJ ai h
 refine rn1 (c93.1 _ _ _ _ af) ?_
 refine an ?_
 rcases cK (decide (aa<=v3))with aj | aj
 ·replace h:=bJ aj h;refine ct (sq (rn ?_));refine an (rt ?_);cases h;simp[Ret,TB,EN, *]
 replace h:=bI aj h
 refine cf (sk (an (sq (rn ?_))))
 refine an (ct (rn ?_))
 refine ab (an (rn ?_))
 refine jU ⟨mL1,jD,aa,IntKind.i64.wrap (v5+1),?_,?_,?_,?_,?_,?_,h⟩
 all_goals simp +decide only[F,reduceIte,Nat.reduceAdd,qB,qC,EN, *,-h]⟩
instance:aZ 441 (∀p0 r (h:rY p0=some r),Sc 441 [aL M.aJo.en p0] [rB r]):=⟨λp0 r h=>by
 have i1:=inv λm s=>∃v3:Int,(s.t 0=vL M.aJo.en p0/\s.t 3=vI v3)/\eU p0 m v3=some r
 have e1:=@eU.eq_2
 have i2:=λ(v3:Int) (x5:M.aJo) (ae:Int->Option Bool)=>inv λm s=>∃aa:Int,(s.t 0=vL M.aJo.en p0/\s.t 3=vI v3/\s.t 4=vI aa)/\gE p0 v3 x5 ae m aa=some r
 have e2:=@gE.eq_2
 unfold rY at h
 exact sgo 68 [.tmp 2] Tryz.func441⟩
instance:aZ 349 (∀p0 r (h:kM p0=some r),Sc 349 [aX (M.Key.en p0)] [rW 5 1 enB r]):=⟨λp0 r h=>by
 have i1:=inv λm s=>∃v4:Int,∃aa:List Int,∃ae:Nat,(s.t 1=vP 1 1 0/\s.t 3=vR 100012 ae/\s.t 4=vI v4/\s.h 1=(1,oX 216 (M.Key.en p0))/\s.h 100012=(ae,oW 5 1 enB aa))/\bN p0 m v4 aa=some r
 have e1:=@bN.eq_2
 unfold kM at h
 exact sgo 38 [.tmp 2] Tryz.func349⟩
instance:aZ 348 (∀p0 p1 r (h:bW p0 p1=some r),Sc 348 [aL enB p0,aL enB p1] [rW 5 1 enB r]):=⟨λp0 p1 r h=>by unfold bW at h;exact sgo 11 [.tmp 4] Tryz.func348⟩
instance:aZ 95 (∀p0 r (h:vV p0=some r),Sc 95 [aX (M.aQ.en p0)] [rB r]):=⟨λp0 r h=>by
 have i1:=inv λm s=>∃v3:Int,(s.t 1=vP 1 1 0/\s.t 3=vI v3/\s.h 1=(1,oX 43 (M.aQ.en p0)))/\fN p0 m v3=some r
 have e1:=@fN.eq_2
 have i2:=λ(v3:Int) (x6:M.fE) (ae:Int->Option Bool) (s1:St)=>inv λm s=>∃aa:Int,(s.t 1=vP 1 1 0/\s.t 3=vI v3/\s.t 4=vP 4 ((s1.h 4).1+1) 0/\s.t 5=vI aa/\s.h 1=(1,oX 43 (M.aQ.en p0))/\s.h 4=((s1.h 4).1+1,oX 144 (M.fE.en x6)))/\cW p0 v3 x6 ae m aa=some r
 have e2:=@cW.eq_2
 unfold vV at h
 exact sgo 67 [.tmp 2] Tryz.func95⟩
instance:aZ 111 (∀p0 p1 r (h:Ap p0 p1=some r),Sc 111 [aX (M.Instr.en p0),aI p1] [rB r]):=⟨λp0 p1 r h=>by
 unfold Ap at h
 simp only[EN]
 refine sgn 74 [.tmp 4] Tryz.func111 λbase wd => ?_
 refine sq (rn ?_)
 refine an ?_
 obtain⟨x1,h2,h⟩:=bind_some h
 refine E8 (λs=>s.t 1=vI p1/\s.t 2=vP 2 1 0/\s.t 5=vB x1/\s.h 2=(1,oX 197 (M.Instr.en p0))/\True) ?_ ?_
 ·replace h:=h2;clear h2;rcases cK (p0.aJr==5)with b8 | b8;(replace h:=bJ b8 h;refine rn ?_;cases h;refine jU ⟨?_,?_,?_,?_,trivial⟩<;>(try simp +decide only[F,reduceIte,Nat.reduceAdd,qB,qC,EN, *,-h]));replace h:=bI b8 h;obtain⟨x9,bt,h⟩:=bind_some h;refine rn1 (c93.1 _ _ _ _ bt) ?_;cases h;refine jU ⟨?_,?_,?_,?_,trivial⟩<;>(try simp +decide only[F,reduceIte,Nat.reduceAdd,qB,qC,EN, *,-h])
 clear h2
 rintro s3 f4
 refine sq (rn ?_)
 refine an ?_
 obtain⟨bu,aa,h⟩:=bind_some h
 refine E8 (λs=>s.t 2=vP 2 1 0/\s.t 5=vB x1/\s.t 6=vI bu/\s.h 2=(1,oX 197 (M.Instr.en p0))/\True) ?_ ?_
 ·replace h:=aa;clear aa;refine sq (rn ?_);refine an (bk (sq (rn ?_)));refine an ?_;rcases cK (p0.aJr==1)with ae | ae;(replace h:=bJ ae h;refine ct (rn ?_);refine ab ?_;cases h;refine jU ⟨?_,?_,?_,?_,trivial⟩<;>(try simp +decide only[F,reduceIte,Nat.reduceAdd,qB,qC,EN, *,-h]));replace h:=bI ae h;refine cf (sq (rn ?_));refine an ?_;rcases cK (p0.aJr==2)with af | af;(replace h:=bJ af h;refine ct (rn ?_);refine ab ?_;cases h;refine jU ⟨?_,?_,?_,?_,trivial⟩<;>(try simp +decide only[F,reduceIte,Nat.reduceAdd,qB,qC,EN, *,-h]));replace h:=bI af h;refine cf ?_;obtain⟨bl,ah,h⟩:=bind_some h;refine E8 (λs=>s.t 1=vI p1/\s.t 2=vP 2 1 0/\s.t 5=vB x1/\s.t 6=vI 0/\s.t 16=vI p0.aJr/\s.t 21=vB bl/\s.h 2=(1,oX 197 (M.Instr.en p0))/\True) ?_ ?_;(replace h:=ah;clear ah;refine sq (rn ?_);refine an ?_;rcases cK (p0.aJr==3)with ai | ai;(replace h:=bJ ai h;refine ct (sk ?_);cases h;refine jU ⟨?_,?_,?_,?_,?_,?_,?_,trivial⟩<;>(try simp +decide only[F,reduceIte,Nat.reduceAdd,qB,qC,EN, *,-h]));replace h:=bI ai h;refine cf (rn ?_);cases h;refine jU ⟨?_,?_,?_,?_,?_,?_,?_,trivial⟩<;>(try simp +decide only[F,reduceIte,Nat.reduceAdd,qB,qC,EN, *,-h]));clear ah;rintro cd f23;rcases cK bl with aj | aj;(replace h:=bJ aj h;refine ct (rn ?_);refine ab ?_;cases h;refine jU ⟨?_,?_,?_,?_,trivial⟩<;>(try simp +decide only[F,reduceIte,Nat.reduceAdd,qB,qC,EN, *,-h]));replace h:=bI aj h;refine cf ?_;obtain⟨bm,ak,h⟩:=bind_some h;refine E8 (λs=>s.t 2=vP 2 1 0/\s.t 5=vB x1/\s.t 6=vI 0/\s.t 25=vB bm/\s.h 2=(1,oX 197 (M.Instr.en p0))/\True) ?_ ?_;(replace h:=ak;clear ak;refine sq (rn ?_);refine an ?_;rcases cK (p0.aJr==6)with al | al;(replace h:=bJ al h;refine ct (sk ?_);cases h;refine jU ⟨?_,?_,?_,?_,?_,trivial⟩<;>(try simp +decide only[F,reduceIte,Nat.reduceAdd,qB,qC,EN, *,-h]));replace h:=bI al h;refine cf (sq (rn ?_));refine an ?_;rcases cK (p0.aJr==7)with ao | ao;(replace h:=bJ ao h;refine ct (sk ?_);cases h;refine jU ⟨?_,?_,?_,?_,?_,trivial⟩<;>(try simp +decide only[F,reduceIte,Nat.reduceAdd,qB,qC,EN, *,-h]));replace h:=bI ao h;refine cf (rn ?_);cases h;refine jU ⟨?_,?_,?_,?_,?_,trivial⟩<;>(try simp +decide only[F,reduceIte,Nat.reduceAdd,qB,qC,EN, *,-h]));clear ak;rintro cg f35;rcases GB bm with aq | aq;(replace h:=bI aq h;refine cf (sk (ab ?_));cases h;refine jU ⟨?_,?_,?_,?_,trivial⟩<;>(try simp +decide only[F,reduceIte,Nat.reduceAdd,qB,qC,EN, *,-h]));replace h:=bJ aq h;refine ct (rn ?_);refine ab ?_;cases h;refine jU ⟨?_,?_,?_,?_,trivial⟩<;>(try simp +decide only[F,reduceIte,Nat.reduceAdd,qB,qC,EN, *,-h])
 clear aa
 rintro cj f14
 refine sq ?_
 obtain⟨bn,ar,h⟩:=bind_some h
 refine E8 (λs=>s.t 2=vP 2 1 0/\s.t 5=vB x1/\s.t 45=vB bn/\s.h 2=(1,oX 197 (M.Instr.en p0))/\True) ?_ ?_
 ·replace h:=ar;clear ar;obtain⟨bw,av,h⟩:=bind_some h;rcases cK (!bw)with aw | aw;(replace h:=bJ aw h;refine rn1 (c93.1 _ _ _ _ av) ?_;cases h;refine jU ⟨?_,?_,?_,?_,trivial⟩<;>(try simp +decide only[F,reduceIte,Nat.reduceAdd,qB,qC,EN, *,-h]));replace h:=bI aw h;obtain⟨bz,bo,h⟩:=bind_some h;rcases cK (!bz)with ax | ax;(replace h:=bJ ax h;refine rn2 (c93.1 _ _ _ _ av) (c93.1 _ _ _ _ bo) ?_;cases h;refine jU ⟨?_,?_,?_,?_,trivial⟩<;>(try simp +decide only[F,reduceIte,Nat.reduceAdd,qB,qC,EN, *,-h]));replace h:=bI ax h;obtain⟨ck,c5,h⟩:=bind_some h;refine rn3 (c93.1 _ _ _ _ av) (c93.1 _ _ _ _ bo) (c93.1 _ _ _ _ c5) ?_;cases h;refine jU ⟨?_,?_,?_,?_,trivial⟩<;>(try simp +decide only[F,reduceIte,Nat.reduceAdd,qB,qC,EN, *,-h])
 clear ar
 rintro cn f46
 rcases cK bn with ay | ay
 ·replace h:=bJ ay h;refine ct (sq (rn ?_));refine an (rt ?_);cases h;simp[Ret,TB,EN, *]
 replace h:=bI ay h
 refine cf (sk (an (sq ?_)))
 obtain⟨bq,az,h⟩:=bind_some h
 refine E8 (λs=>s.t 2=vP 2 1 0/\s.t 5=vB x1/\s.t 58=vB bq/\s.h 2=(1,oX 197 (M.Instr.en p0))/\True) ?_ ?_
 ·replace h:=az;clear az;rcases cK (p0.aJr==4)with ba | ba;(replace h:=bJ ba h;refine rn ?_;cases h;refine jU ⟨?_,?_,?_,?_,trivial⟩<;>(try simp +decide only[F,reduceIte,Nat.reduceAdd,qB,qC,EN, *,-h]));replace h:=bI ba h;rcases cK (p0.aJr==9)with bd | bd;(replace h:=bJ bd h;refine rn ?_;cases h;refine jU ⟨?_,?_,?_,?_,trivial⟩<;>(try simp +decide only[F,reduceIte,Nat.reduceAdd,qB,qC,EN, *,-h]));replace h:=bI bd h;refine rn ?_;cases h;refine jU ⟨?_,?_,?_,?_,trivial⟩<;>(try simp +decide only[F,reduceIte,Nat.reduceAdd,qB,qC,EN, *,-h])
 clear az
 rintro cq f62
 rcases cK bq with bf | bf
 ·replace h:=bJ bf h;refine ct (sq (rn ?_));refine an (rt ?_);cases h;simp[Ret,TB,EN, *]
 replace h:=bI bf h
 refine cf (sk (an ?_))
 obtain⟨ca,bg,h⟩:=bind_some h
 refine E8 (λs=>s.t 4=vB ca/\True) ?_ ?_
 ·replace h:=bg;clear bg;rcases GB x1 with bh | bh;(replace h:=bI bh h;refine rn ?_;cases h;refine jU ⟨?_,trivial⟩<;>(try simp +decide only[F,reduceIte,Nat.reduceAdd,qB,qC,EN, *,-h]));replace h:=bJ bh h;obtain⟨cc,br,h⟩:=bind_some h;rcases cK cc with bj | bj;(replace h:=bJ bj h;refine rn1 (aAK.1 _ _ br) ?_;cases h;refine jU ⟨?_,trivial⟩<;>(try simp +decide only[F,reduceIte,Nat.reduceAdd,qB,qC,EN, *,-h]));replace h:=bI bj h;refine rn1 (aAK.1 _ _ br) ?_;cases h;refine jU ⟨?_,trivial⟩<;>(try simp +decide only[F,reduceIte,Nat.reduceAdd,qB,qC,EN, *,-h])
 clear bg
 rintro cr ⟨f72,_⟩
 refine rt ?_
 cases h
 simp[Ret,TB,EN, *]⟩
instance:aZ 460 (∀p0 r (h:Ek p0=some r),Sc 460 [aL enI p0] [rI r]):=⟨λp0 r h=>by
 have i1:=inv λm s=>∃v3:Int,∃v4:Int,(s.t 0=vL enI p0/\s.t 3=vI v3/\s.t 4=vI v4)/\vY p0 m v3 v4=some r
 have e1:=@vY.eq_2
 unfold Ek at h
 exact sgo 22 [.tmp 2] Tryz.func460⟩
instance:aZ 34 (∀p0 p1 p2 r (h:mS p0 p1 p2=some r),Sc 34 [aX (M.aJf.en p0),aI p1,aI p2] [(true,M.aJf.rs r.1),rB r.2]):=⟨λp0 p1 p2 r h=>by unfold mS at h;exact sgo 36 [.cell 6 89,.tmp 7] Tryz.func34⟩
instance:aZ 537 (∀p0 r (h:tJ p0=some r),Sc 537 [aL enB p0] [(true,M.Key.rs r.1),rB r.2]):=⟨λp0 r h=>by
 have i1:=λ(x2:Int)=>inv λm s=>∃v6:Int,∃v7:Int,(s.t 0=vL enB p0/\s.t 2=vP 2 1 0/\s.t 4=vP 4 1 0/\s.t 6=vI v6/\s.t 7=vI v7/\s.h 2=(1,oB 216 [cI 0,cI 0,cS (⟨#[]⟩:ByteArray)])/\s.h 4=(1,oB 216 [cI (IntKind.i64.wrap x2),cI 0,cS (⟨#[]⟩:ByteArray)]))/\kR p0 x2 m v6 v7=some r
 have e1:=@kR.eq_2
 unfold tJ at h
 exact sgo 49 [.cell 2 216,.tmp 3] Tryz.func537⟩
