/-
  Helper text. No conditions.
-/
import Derived.Test.YtbpbocchokbggaaGreatOpenedWimpl3
set_option linter.all false
namespace Go.Proofs.YtbpbocchokbggaaGreat.gen
open Go Go.Sh
set_option maxRecDepth 20000
set_option maxHeartbeats 4000000
instance:bK 190 (∀p0 r (h:vN p0=some r),Sc 190 [aX (M.aHB.en p0)] [(true,M.aHB.rs r)]):=⟨λp0 r h=>by
 have i1:=ES [.b 3 2 7050000 117 3] λm s=>∃af:Int,∃aa:List M.aC,∃ae:Nat,(s.t 2=vP 2 1 0/\s.t 3=vP 3 1 0/\s.t 16=vL M.aC.en p0.aHP/\s.t 17=vI (List.length p0.aHP:Int)/\s.t 18=vI af/\s.h 2=(1,DY)/\s.h 3=(1,oB 112 [cS p0.Name,cI p0.aHA,.row 7050000 ae,.row 100010 2])/\s.h 100010=(2,oW 471 2 M.aN.en p0.aHX)/\s.h 7050000=(ae,oW 117 3 M.aC.en aa))/\gY p0 m af aa=some r
 have e1:=@gY.eq_2
 unfold vN at h
 exact sgo 31 [.cell 2 112] Tryz.func190⟩
instance:bK 352 (∀p0 r (h:xE p0=some r),Sc 352 [aX (M.aE.en p0)] [(true,M.aE.rs r)]):=⟨λp0 r h=>by unfold xE at h;exact sgo 12 [.cell 2 124] Tryz.func352⟩
instance:bK 188 (∀p0 r (h:yP p0=some r),Sc 188 [aX (M.aHO.en p0)] [(true,M.aHO.rs r)]):=⟨λp0 r h=>by unfold yP at h;exact sgo 15 [.cell 2 205] Tryz.func188⟩
instance:bK 279 (∀p0 r (h:xI p0=some r),Sc 279 [aX (M.aG9.en p0)] [rB r]):=⟨λp0 r h=>by
 unfold xI at h
 simp only[EN]
 refine sgn 37 [.tmp 2] Tryz.func279 λbase wd => ?_
 refine sq (rn ?_)
 refine an (sq (rn ?_))
 refine an (sq (sq (rn ?_)))
 refine an (bk ?_)
 refine cu (λs=>s.t 1=vP 1 1 0/\s.t 3=vI 0/\s.t 12=vR 100012 1/\s.t 13=vI ((3:Nat):Int)/\s.t 14=vI 0/\s.h 1=(1,oX 105 (M.aG9.en p0))/\s.h 100012=(1,oW 3 1 enI ([p0.aHp,p0.aHm,p0.aHf]))/\True) ?_
 rintro s1 f2
 refine Hv (λm s=>∃v3:Int,∃aa:Int,s.t 1=vP 1 1 0/\s.t 3=vI v3/\s.t 12=vR 100012 1/\s.t 13=vI ((3:Nat):Int)/\s.t 14=vI aa/\s.h 1=(1,oX 105 (M.aG9.en p0))/\s.h 100012=(1,oW 3 1 enI ([p0.aHp,p0.aHm,p0.aHf]))/\dK p0 m v3 aa=some r) fuel ?_ ?_
 ·refine⟨0,0,?_,?_,?_,?_,?_,?_,?_,h⟩;all_goals simp +decide only[F,reduceIte,Nat.reduceAdd,qB,qC,EN, *,-h]
 rintro mL1 s9 ⟨v3,aa,f10,f11,f12,f13,f14,f15,f16,h⟩
 rcases mL1 with _ | mL1
 ·exact absurd h (by simp[dK])
 simp only[dK]at h
 refine sq (rn ?_)
 refine an (sq ?_)
 rcases Cw (decide (aa<((3:Nat):Int)))with af | af
 ·replace h:=bF af h;refine cf (xt (EP (EF (Js (an (sq ?_))))));obtain⟨av,al,h⟩:=bind_some h;refine rn1 (aAQ.1 _ _ al) ?_;refine an (rt ?_);cases h;simp[Ret,TB,EN, *]
 replace h:=bG af h
 refine ct (sk (an (sq (bk (sq ?_)))))
 obtain⟨ae,ao,h⟩:=bind_some h
 obtain⟨aw,ax,aq⟩:=rR ao
 have q20m:=congrArg (Option.map enI) (show([p0.aHp,p0.aHm,p0.aHf])[aa.toNat]? = some ae by assumption)
 simp only[<-List.getElem?_map,List.map_cons,List.map_nil,Option.map_some,EN]at q20m
 simp only[qJ,qK,Nat.reduceAdd]at aq
 refine rn ?_
 refine an (sq (sq ?_))
 obtain⟨ar,ah,h⟩:=bind_some h
 rcases dP (!ar)with ai | ai
 ·replace h:=bG ai h;refine rn1 (OG.1 _ _ _ _ ah) ?_;refine an (ct (sq (rn ?_)));refine an (rt ?_);cases h;simp[Ret,TB,EN, *]
 replace h:=bF ai h
 rcases Cw (ae != 0)with aj | aj
 ·replace h:=bF aj h;refine rn1 (OG.1 _ _ _ _ ah) ?_;refine an (cf (sk (an (rn ?_))));refine ab (an (rn ?_));refine dV ⟨mL1,jF,if ae>v3 then ae else v3,IntKind.i64.wrap (aa+1),?_,?_,?_,?_,?_,?_,?_,h⟩;all_goals simp +decide only[F,reduceIte,Nat.reduceAdd,qB,qC,EN, *,-h]
 replace h:=bG aj h
 refine rn1 (OG.1 _ _ _ _ ah) ?_
 refine an ?_
 rcases dP (decide (ae<=v3))with ak | ak
 ·replace h:=bG ak h;refine ct (sq (rn ?_));refine an (rt ?_);cases h;simp[Ret,TB,EN, *]
 replace h:=bF ak h
 refine cf (sk (an (rn ?_)))
 refine ab (an (rn ?_))
 refine dV ⟨mL1,jF,if ae>v3 then ae else v3,IntKind.i64.wrap (aa+1),?_,?_,?_,?_,?_,?_,?_,h⟩
 all_goals simp +decide only[F,reduceIte,Nat.reduceAdd,qB,qC,EN, *,-h]⟩
instance:bK 385 (∀p0 r (h:xZ p0=some r),Sc 385 [aX (M.aF.en p0)] [rB r]):=⟨λp0 r h=>by
 have i1:=inv λm s=>∃v10:Int,(s.t 1=vP 1 1 0/\s.t 8=vL M.aHM.en p0.aHC/\s.t 9=vI (List.length p0.aHC:Int)/\s.t 10=vI v10/\s.h 1=(1,oX 108 (M.aF.en p0)))/\fF p0 m v10=some r
 have e1:=@fF.eq_2
 have i2:=λ(v10:Int) (x8:M.aHM) (af:Int->Option Bool) (s1:St)=>inv λm s=>∃aa:Int,(s.t 1=vP 1 1 0/\s.t 4=vP 4 ((s1.h 4).1+1) 0/\s.t 8=vL M.aHM.en p0.aHC/\s.t 9=vI (List.length p0.aHC:Int)/\s.t 10=vI v10/\s.t 42=vL M.aHU.en x8.aHS/\s.t 43=vI (List.length x8.aHS:Int)/\s.t 44=vI aa/\s.h 1=(1,oX 108 (M.aF.en p0))/\s.h 4=((s1.h 4).1+1,oX 345 (M.aHM.en x8)))/\fG x8 af m aa=some r
 have e2:=@fG.eq_2
 have i3:=λ(v10:Int) (x8:M.aHM) (ah:Int->Option Bool) (s1:St)=>inv λm s=>∃ae:Int,(s.t 1=vP 1 1 0/\s.t 4=vP 4 ((s1.h 4).1+1) 0/\s.t 8=vL M.aHM.en p0.aHC/\s.t 9=vI (List.length p0.aHC:Int)/\s.t 10=vI v10/\s.t 42=vL M.aHU.en x8.aHS/\s.t 43=vI (List.length x8.aHS:Int)/\s.t 44=vI ae/\s.h 1=(1,oX 108 (M.aF.en p0))/\s.h 4=((s1.h 4).1+1,oX 345 (M.aHM.en x8)))/\eQ x8 ah m ae=some r
 have e3:=@eQ.eq_2
 unfold xZ at h
 exact sgo 81 [.tmp 2] Tryz.func385⟩
instance:bK 199 (∀p0 r (h:yG p0=some r),Sc 199 [aX (M.aD.en p0)] [rB r]):=⟨λp0 r h=>by
 have i1:=inv λm s=>∃v8:Int,(s.t 1=vP 1 1 0/\s.t 6=vL M.Field.en p0.aHG/\s.t 7=vI (List.length p0.aHG:Int)/\s.t 8=vI v8/\s.h 1=(1,oX 129 (M.aD.en p0)))/\iB p0 m v8=some r
 have e1:=@iB.eq_2
 unfold yG at h
 exact sgo 44 [.tmp 2] Tryz.func199⟩
instance:bK 586 (∀p0 p1 p2 r (h:wZ p0 p1 p2=some r),Sc 586 [aX (M.aHV.en p0),aX (M.aHV.en p1),aS p2] [rB r]):=⟨λp0 p1 p2 r h=>by unfold wZ at h;exact sgo 41 [.tmp 6] Tryz.func586⟩
instance:bK 382 (∀p0 r (h:oQ p0=some r),Sc 382 [aX (M.bB.en p0)] [rB r]):=⟨λp0 r h=>by unfold oQ at h;exact sgo 26 [.tmp 2] Tryz.func382⟩
instance:bK 241 (∀p0 r (h:wU p0=some r),Sc 241 [aX (M.aM.en p0)] [rB r]):=⟨λp0 r h=>by
 have i1:=inv λm s=>∃v10:Int,(s.t 1=vP 1 1 0/\s.t 8=vL M.dO.en p0.aHR/\s.t 9=vI (List.length p0.aHR:Int)/\s.t 10=vI v10/\s.h 1=(1,oX 51 (M.aM.en p0)))/\fY p0 m v10=some r
 have e1:=@fY.eq_2
 have i2:=λ(v10:Int) (x8:M.dO) (ae:Int->Option Bool) (s1:St)=>inv λm s=>∃aa:Int,(s.t 1=vP 1 1 0/\s.t 4=vP 4 ((s1.h 4).1+1) 0/\s.t 8=vL M.dO.en p0.aHR/\s.t 9=vI (List.length p0.aHR:Int)/\s.t 10=vI v10/\s.t 28=vL M.dO.en (List.take v10.toNat p0.aHR)/\s.t 29=vI (List.length (List.take v10.toNat p0.aHR):Int)/\s.t 30=vI aa/\s.h 1=(1,oX 51 (M.aM.en p0))/\s.h 4=((s1.h 4).1+1,oX 196 (M.dO.en x8)))/\cR p0 v10 x8 ae m aa=some r
 have e2:=@cR.eq_2
 unfold wU at h
 exact sgo 64 [.tmp 2] Tryz.func241⟩
instance:bK 242 (∀p0 r (h:uF p0=some r),Sc 242 [aX (M.bC.en p0)] [rB r]):=⟨λp0 r h=>by
 have i1:=inv λm s=>∃v8:Int,(s.t 1=vP 1 1 0/\s.t 6=vL M.aT.en p0.aT/\s.t 7=vI (List.length p0.aT:Int)/\s.t 8=vI v8/\s.h 1=(1,oX 67 (M.bC.en p0)))/\tQ p0 m v8=some r
 have e1:=@tQ.eq_2
 unfold uF at h
 exact sgo 48 [.tmp 2] Tryz.func242⟩
instance:bK 243 (∀p0 r (h:zJ p0=some r),Sc 243 [aX (M.aHL.en p0)] [rB r]):=⟨λp0 r h=>by
 have i1:=inv λm s=>∃v8:Int,(s.t 1=vP 1 1 0/\s.t 6=vL enS p0.aHl/\s.t 7=vI (List.length p0.aHl:Int)/\s.t 8=vI v8/\s.h 1=(1,oX 92 (M.aHL.en p0)))/\lN p0 m v8=some r
 have e1:=@lN.eq_2
 unfold zJ at h
 exact sgo 45 [.tmp 2] Tryz.func243⟩
instance:bK 481 (∀p0 p1 r (h:xM p0 p1=some r),Sc 481 [aX (M.Instr.en p0),aI p1] [rB r]):=⟨λp0 p1 r h=>by
 unfold xM at h
 simp only[EN]
 refine sgn 94 [.tmp 4] Tryz.func481 λbase wd => ?_
 refine sq (rn ?_)
 refine an (sq ?_)
 obtain⟨x1,h2,h⟩:=bind_some h
 refine sD (λs=>s.t 1=vI p1/\s.t 2=vP 2 1 0/\s.t 30=vB x1/\s.h 2=(1,oX 308 (M.Instr.en p0))/\True) ?_ ?_
 ·replace h:=h2;clear h2;obtain⟨x8,h9,h⟩:=bind_some h;rcases dP (!x8)with ae | ae;(replace h:=bG ae h;refine rn1 (OG.1 _ _ _ _ h9) ?_;cases h;refine dV ⟨?_,?_,?_,?_,trivial⟩<;>(try simp +decide only[F,reduceIte,Nat.reduceAdd,qB,qC,EN, *,-h]));replace h:=bF ae h;obtain⟨bt,aa,h⟩:=bind_some h;rcases dP (!bt)with af | af;(replace h:=bG af h;refine rn2 (OG.1 _ _ _ _ h9) (OG.1 _ _ _ _ aa) ?_;cases h;refine dV ⟨?_,?_,?_,?_,trivial⟩<;>(try simp +decide only[F,reduceIte,Nat.reduceAdd,qB,qC,EN, *,-h]));replace h:=bF af h;rcases dP (p0.aHb==4)with ah | ah;(replace h:=bG ah h;refine rn2 (OG.1 _ _ _ _ h9) (OG.1 _ _ _ _ aa) ?_;cases h;refine dV ⟨?_,?_,?_,?_,trivial⟩<;>(try simp +decide only[F,reduceIte,Nat.reduceAdd,qB,qC,EN, *,-h]));replace h:=bF ah h;rcases dP (p0.aHb==9)with ai | ai;(replace h:=bG ai h;refine rn2 (OG.1 _ _ _ _ h9) (OG.1 _ _ _ _ aa) ?_;cases h;refine dV ⟨?_,?_,?_,?_,trivial⟩<;>(try simp +decide only[F,reduceIte,Nat.reduceAdd,qB,qC,EN, *,-h]));replace h:=bF ai h;refine rn2 (OG.1 _ _ _ _ h9) (OG.1 _ _ _ _ aa) ?_;cases h;refine dV ⟨?_,?_,?_,?_,trivial⟩<;>(try simp +decide only[F,reduceIte,Nat.reduceAdd,qB,qC,EN, *,-h])
 clear h2
 rintro s3 f4
 rcases dP x1 with aj | aj
 ·replace h:=bG aj h;refine ct (sq (rn ?_));refine an (rt ?_);cases h;simp[Ret,TB,EN, *]
 replace h:=bF aj h
 refine cf (sk (an ?_))
 obtain⟨bm,ak,h⟩:=bind_some h
 refine sD (λs=>s.t 1=vI p1/\s.t 2=vP 2 1 0/\s.t 5=vB bm/\s.h 2=(1,oX 308 (M.Instr.en p0))/\True) ?_ ?_
 ·replace h:=ak;clear ak;rcases dP (p0.aHb==5)with al | al;(replace h:=bG al h;refine rn ?_;cases h;refine dV ⟨?_,?_,?_,?_,trivial⟩<;>(try simp +decide only[F,reduceIte,Nat.reduceAdd,qB,qC,EN, *,-h]));replace h:=bF al h;rcases dP (p0.aHb==6)with ao | ao;(replace h:=bG ao h;refine rn ?_;cases h;refine dV ⟨?_,?_,?_,?_,trivial⟩<;>(try simp +decide only[F,reduceIte,Nat.reduceAdd,qB,qC,EN, *,-h]));replace h:=bF ao h;rcases dP (p0.aHb==7)with aq | aq;(replace h:=bG aq h;refine rn ?_;cases h;refine dV ⟨?_,?_,?_,?_,trivial⟩<;>(try simp +decide only[F,reduceIte,Nat.reduceAdd,qB,qC,EN, *,-h]));replace h:=bF aq h;refine rn ?_;cases h;refine dV ⟨?_,?_,?_,?_,trivial⟩<;>(try simp +decide only[F,reduceIte,Nat.reduceAdd,qB,qC,EN, *,-h])
 clear ak
 rintro ca f20
 refine sq ?_
 obtain⟨bn,ar,h⟩:=bind_some h
 refine sD (λs=>s.t 1=vI p1/\s.t 2=vP 2 1 0/\s.t 64=vB bn/\s.h 2=(1,oX 308 (M.Instr.en p0))/\True) ?_ ?_
 ·replace h:=ar;clear ar;rcases Cw bm with av | av;(replace h:=bF av h;refine rn ?_;cases h;refine dV ⟨?_,?_,?_,?_,trivial⟩<;>(try simp +decide only[F,reduceIte,Nat.reduceAdd,qB,qC,EN, *,-h]));replace h:=bG av h;obtain⟨bu,bo,h⟩:=bind_some h;rcases dP (!bu)with aw | aw;(replace h:=bG aw h;refine rn1 (aAQ.1 _ _ bo) ?_;cases h;refine dV ⟨?_,?_,?_,?_,trivial⟩<;>(try simp +decide only[F,reduceIte,Nat.reduceAdd,qB,qC,EN, *,-h]));replace h:=bF aw h;refine rn1 (aAQ.1 _ _ bo) ?_;cases h;refine dV ⟨?_,?_,?_,?_,trivial⟩<;>(try simp +decide only[F,reduceIte,Nat.reduceAdd,qB,qC,EN, *,-h])
 clear ar
 rintro cd f30
 rcases dP bn with ax | ax
 ·replace h:=bG ax h;refine ct (sq (rn ?_));refine an (rt ?_);cases h;simp[Ret,TB,EN, *]
 replace h:=bF ax h
 refine cf (sk (an (sq (sq (rn ?_)))))
 refine an (bk (sq (rn ?_)))
 refine an ?_
 rcases dP (p0.aHb==1)with ay | ay
 ·replace h:=bG ay h;refine ct (sq ?_);obtain⟨cg,bw,h⟩:=bind_some h;refine rn1 (OG.1 _ _ _ _ bw) ?_;refine an (rt ?_);cases h;simp[Ret,TB,EN, *]
 replace h:=bF ay h
 refine cf (sq (rn ?_))
 refine an ?_
 rcases dP (p0.aHb==2)with az | az
 ·replace h:=bG az h;refine ct (sq ?_);obtain⟨cj,bx,h⟩:=bind_some h;refine rn1 (OG.1 _ _ _ _ bx) ?_;refine an (rt ?_);cases h;simp[Ret,TB,EN, *]
 replace h:=bF az h
 refine cf ?_
 obtain⟨bq,ba,h⟩:=bind_some h
 refine sD (λs=>s.t 1=vI p1/\s.t 2=vP 2 1 0/\s.t 66=vI p0.aHb/\s.t 77=vB bq/\s.h 2=(1,oX 308 (M.Instr.en p0))/\True) ?_ ?_
 ·replace h:=ba;clear ba;refine sq (rn ?_);refine an ?_;rcases dP (p0.aHb==3)with bd | bd;(replace h:=bG bd h;refine ct (sk ?_);cases h;refine dV ⟨?_,?_,?_,?_,?_,trivial⟩<;>(try simp +decide only[F,reduceIte,Nat.reduceAdd,qB,qC,EN, *,-h]));replace h:=bF bd h;refine cf (rn ?_);cases h;refine dV ⟨?_,?_,?_,?_,?_,trivial⟩<;>(try simp +decide only[F,reduceIte,Nat.reduceAdd,qB,qC,EN, *,-h])
 clear ba
 rintro ck f48
 rcases dP bq with bf | bf
 ·replace h:=bG bf h;refine ct (sq ?_);obtain⟨cl,bz,h⟩:=bind_some h;refine rn1 (OG.1 _ _ _ _ bz) ?_;refine an (rt ?_);cases h;simp[Ret,TB,EN, *]
 replace h:=bF bf h
 refine cf ?_
 obtain⟨br,bg,h⟩:=bind_some h
 refine sD (λs=>s.t 2=vP 2 1 0/\s.t 84=vB br/\s.h 2=(1,oX 308 (M.Instr.en p0))/\True) ?_ ?_
 ·replace h:=bg;clear bg;refine sq (rn ?_);refine an ?_;rcases dP (p0.aHb==6)with bh | bh;(replace h:=bG bh h;refine ct (sk ?_);cases h;refine dV ⟨?_,?_,?_,trivial⟩<;>(try simp +decide only[F,reduceIte,Nat.reduceAdd,qB,qC,EN, *,-h]));replace h:=bF bh h;refine cf (sq (rn ?_));refine an ?_;rcases dP (p0.aHb==7)with bj | bj;(replace h:=bG bj h;refine ct (sk ?_);cases h;refine dV ⟨?_,?_,?_,trivial⟩<;>(try simp +decide only[F,reduceIte,Nat.reduceAdd,qB,qC,EN, *,-h]));replace h:=bF bj h;refine cf (rn ?_);cases h;refine dV ⟨?_,?_,?_,trivial⟩<;>(try simp +decide only[F,reduceIte,Nat.reduceAdd,qB,qC,EN, *,-h])
 clear bg
 rintro cn f60
 rcases Cw br with bl | bl
 ·replace h:=bF bl h;refine cf (sk (ab (an (sq (rn ?_)))));refine an (rt ?_);cases h;simp[Ret,TB,EN, *]
 replace h:=bG bl h
 refine ct (sq ?_)
 obtain⟨cp,c9,h⟩:=bind_some h
 refine rn1 (OG.1 _ _ _ _ c9) ?_
 refine an (rt ?_)
 cases h
 simp[Ret,TB,EN, *]⟩
instance:bK 483 (∀p0 p1 r (h:wL p0 p1=some r),Sc 483 [aI p0,aL enI p1] [rI r]):=⟨λp0 p1 r h=>by unfold wL at h;exact sgo 13 [.tmp 4] Tryz.func483⟩
theorem aGU(p0 p1 r)(h:sK p0 p1=some r):Sc 566 [aX (M.aHU.en p0),aX (M.aHU.en p1)] [rB r]:=by unfold sK at h;exact sgo 24 [.tmp 4] Tryz.func566
instance aAV:bK 264 (∀p0 p1 r (h:hJ p0 p1=some r),Sc 264 [aX (M.aC.en p0),aX (M.aC.en p1)] [rB r]):=⟨λp0 p1 r h=>by
 unfold hJ at h
 simp only[EN]
 refine sgn 24 [.tmp 4] Tryz.func264 λbase wd => ?_
 refine sq (rn ?_)
 refine an (sq ?_)
 rcases Cw (p0.Name.toList==p1.Name.toList)with b1 | b1
 ·replace h:=bF b1 h;refine rn ?_;refine an (rt ?_);cases h;simp[Ret,TB,EN, *]
 replace h:=bG b1 h
 rcases Cw (p0.aHg==p1.aHg)with b2 | b2
 ·replace h:=bF b2 h;refine rn ?_;refine an (rt ?_);cases h;simp[Ret,TB,EN, *]
 replace h:=bG b2 h
 obtain⟨x3,h4,h⟩:=bind_some h
 refine rn1 (aGc p0.aHF p1.aHF (λz0 z1=>uP z0 z1) 406 [] (λz0 z1 r hr=>aGM z0 z1 r hr) x3 h4) ?_
 refine an (rt ?_)
 cases h
 simp[Ret,TB,EN, *]⟩
