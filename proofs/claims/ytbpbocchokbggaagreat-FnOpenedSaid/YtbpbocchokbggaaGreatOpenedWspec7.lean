/-
  Helper text. No conditions.
-/
import Derived.Test.YtbpbocchokbggaaGreatOpenedWspec5
import Derived.Test.YtbpbocchokbggaaGreatOpenedWspec6
set_option linter.all false
namespace Go.Proofs.YtbpbocchokbggaaGreat.gen
open Go Go.Sh
set_option maxRecDepth 20000
set_option maxHeartbeats 4000000
instance c43:bK 43 (∀p0 r (h:fT p0=some r),Sc 43 [aX (M.World.en p0)] [(true,M.World.rs r)]):=⟨λp0 r h=>by
 have i1:=λ(x1:M.aA)=>inv λm s=>∃v4:Int,∃ae:List M.bC,∃af:Nat,(s.t 1=vP 1 1 0/\s.t 2=vP 2 1 0/\s.t 3=vP 3 1 0/\s.t 4=vI v4/\s.h 1=(1,oX 58 (M.World.en p0))/\s.h 2=(1,My)/\s.h 3=(1,oB 58 [cI p0.Now,cB p0.aHc,cI p0.aHI,.row 100010 1,.row 100012 af,cI p0.aHK,cL M.dO.en p0.aHR.aHR,cL M.mI.en p0.aHN.aHn,cL M.aHL.en p0.aHZ,cL M.aHO.en p0.aHT])/\s.h 100010=(1,oW 126 24 M.aHD.en x1.aHE)/\s.h 100012=(af,oW 67 11 M.bC.en ae))/\mX p0 x1 m v4 ae=some r
 have e1:=@mX.eq_2
 have i2:=λ(x1:M.aA) (ae:List M.bC) (ah:M.aM) (ai:M.aHN) (aa:St) (af:Nat)=>inv λm s=>∃v5:Int,∃aj:List M.aHL,∃ak:Nat,(s.t 1=vP 1 1 0/\s.t 2=vP 2 1 0/\s.t 3=vP 3 1 0/\s.t 5=vI v5/\s.h 1=(1,oX 58 (M.World.en p0))/\s.h 2=(1,My)/\s.h 3=(1,oB 58 [cI p0.Now,cB p0.aHc,cI p0.aHI,.row 100010 1,.row 100012 af,cI p0.aHK,.row 100034 ((aa.h 100034).1+1),.row 100038 ((aa.h 100038).1+1),.row 100040 ak,cL M.aHO.en p0.aHT])/\s.h 100010=(1,oW 126 24 M.aHD.en x1.aHE)/\s.h 100012=(af,oW 67 11 M.bC.en ae)/\s.h 100034=((aa.h 100034).1+1,oW 196 4 M.dO.en ah.aHR)/\s.h 100038=((aa.h 100038).1+1,oW 199 3 M.mI.en ai.aHn)/\s.h 100040=(ak,oW 92 4 M.aHL.en aj))/\kG p0 x1 ae ah ai m v5 aj=some r
 have e2:=@kG.eq_2
 have i3:=λ(x1:M.aA) (ae:List M.bC) (ah:M.aM) (ai:M.aHN) (aj:List M.aHL) (aa:St) (af:Nat) (ak:Nat)=>inv λm s=>∃v6:Int,∃al:List M.aHO,∃ao:Nat,(s.t 1=vP 1 1 0/\s.t 2=vP 2 1 0/\s.t 3=vP 3 1 0/\s.t 6=vI v6/\s.h 1=(1,oX 58 (M.World.en p0))/\s.h 2=(1,My)/\s.h 3=(1,oB 58 [cI p0.Now,cB p0.aHc,cI p0.aHI,.row 100010 1,.row 100012 af,cI p0.aHK,.row 100034 ((aa.h 100034).1+1),.row 100038 ((aa.h 100038).1+1),.row 100040 ak,.row 100060 ao])/\s.h 100010=(1,oW 126 24 M.aHD.en x1.aHE)/\s.h 100012=(af,oW 67 11 M.bC.en ae)/\s.h 100034=((aa.h 100034).1+1,oW 196 4 M.dO.en ah.aHR)/\s.h 100038=((aa.h 100038).1+1,oW 199 3 M.mI.en ai.aHn)/\s.h 100040=(ak,oW 92 4 M.aHL.en aj)/\s.h 100060=(ao,oW 205 5 M.aHO.en al))/\kE p0 x1 ae ah ai aj m v6 al=some r
 have e3:=@kE.eq_2
 unfold fT at h
 exact sgo 81 [.cell 2 58] Tryz.func43⟩
instance:bK 394 (∀p0 r (h:BG p0=some r),Sc 394 [aX (M.aHD.en p0)] [rI r]):=⟨λp0 r h=>by unfold BG at h;exact sgo 23 [.tmp 2] Tryz.func394⟩
instance:bK 258 (∀p0 p1 p2 p3 p4 r (h:oC p0 p1 p2 p3 p4=some r),Sc 258 [aX (M.aF.en p0),aX (M.aHL.en p1),aI p2,aS p3,aB p4] [(true,M.aHH.rs r)]):=⟨λp0 p1 p2 p3 p4 r h=>by unfold oC at h;exact sgo 30 [.cell 10 189] Tryz.func258⟩
instance:bK 311 (∀p0 p1 r (h:BU p0 p1=some r),Sc 311 [aX (M.aHB.en p0),aX (M.Op.en p1)] [(true,M.aHB.rs r.1),rI r.2.1,rB r.2.2]):=⟨λp0 p1 r h=>by unfold BU at h;exact sgo 58 [.cell 4 112,.tmp 5,.tmp 6] Tryz.func311⟩
instance:bK 599 (∀p0 r (h:Be p0=some r),Sc 599 [aX (M.aE.en p0)] [(true,M.aC.rs r)]):=⟨λp0 r h=>by unfold Be at h;exact sgo 10 [.cell 2 117] Tryz.func599⟩
instance:bK 641 (∀p0 p1 r (h:mJ p0 p1=some r),Sc 641 [aX (M.aHB.en p0),aX (M.lW.en p1)] [(true,M.aHB.rs r.1),rB r.2]):=⟨λp0 p1 r h=>by
 unfold mJ at h
 simp only[EN]
 refine sgn 130 [.cell 4 112,.tmp 5] Tryz.func641 λbase wd => ?_
 refine sq (rn ?_)
 refine an (sq ?_)
 obtain⟨x1,h2,h⟩:=bind_some h
 refine rn1 (Yw.1 _ _ h2) ?_
 refine an (sq ?_)
 obtain⟨x3,h4,h⟩:=bind_some h
 refine rn1 (aAx.1 _ _ _ h4) ?_
 refine an (sq ?_)
 obtain⟨x5,h6,h⟩:=bind_some h
 refine rn1 (aG0 _ _ _ h6) ?_
 refine an (sq (bk ?_))
 obtain⟨x7,h8,h⟩:=bind_some h
 refine sD (λs=>s.t 2=vP 2 1 0/\s.t 3=vP 3 1 0/\s.t 4=vP 4 1 0/\s.t 6=vP 6 1 0/\s.t 7=vI x3/\s.t 8=vI x5/\s.t 21=vB x7/\s.h 2=(1,oX 112 (M.aHB.en p0))/\s.h 3=(1,oX 633 (M.lW.en p1))/\s.h 4=(1,DY)/\s.h 6=(1,oB 112 [cS x1.Name,cI x1.aHA,.row 300012 1,.row 400012 1])/\s.h 300012=(1,oW 117 3 M.aC.en x1.aHP)/\s.h 400012=(1,oW 471 2 M.aN.en x1.aHX)/\True) ?_ ?_
 ·replace h:=h8;clear h8;rcases dP (p1.aHb==1)with cq | cq;(replace h:=bG cq h;refine rn ?_;cases h;refine dV ⟨?_,?_,?_,?_,?_,?_,?_,?_,?_,?_,?_,?_,?_,trivial⟩<;>(try simp +decide only[F,reduceIte,Nat.reduceAdd,qB,qC,EN, *,-h]));replace h:=bF cq h;refine rn ?_;cases h;refine dV ⟨?_,?_,?_,?_,?_,?_,?_,?_,?_,?_,?_,?_,?_,trivial⟩<;>(try simp +decide only[F,reduceIte,Nat.reduceAdd,qB,qC,EN, *,-h])
 clear h8
 rintro s9 f10
 rcases dP x7 with ah | ah
 ·replace h:=bG ah h
  refine ct (sq (rn ?_))
  refine an (sq (bk ?_))
  refine Hv (λm s=>∃v9:Int,s.t 2=vP 2 1 0/\s.t 3=vP 3 1 0/\s.t 4=vP 4 1 0/\s.t 6=vP 6 1 0/\s.t 9=vI v9/\s.h 2=(1,oX 112 (M.aHB.en p0))/\s.h 3=(1,oX 633 (M.lW.en p1))/\s.h 4=(1,DY)/\s.h 6=(1,oB 112 [cS x1.Name,cI x1.aHA,.row 300012 1,.row 400012 1])/\s.h 300012=(1,oW 117 3 M.aC.en x1.aHP)/\s.h 400012=(1,oW 471 2 M.aN.en x1.aHX)/\pL p0 p1 x1 m v9=some r) fuel ?_ ?_
  ·refine⟨0,?_,?_,?_,?_,?_,?_,?_,?_,?_,?_,?_,h⟩;all_goals simp +decide only[F,reduceIte,Nat.reduceAdd,qB,qC,EN, *,-h]
  rintro mL1 fy ⟨v9,f26,f27,f28,f29,f30,f31,f32,f33,f34,f35,f36,h⟩
  rcases mL1 with _ | mL1
  ·exact absurd h (by simp[pL])
  simp only[pL]at h
  refine sq ?_
  obtain⟨dw,cr,h⟩:=bind_some h
  refine sD (λs=>s.t 2=vP 2 1 0/\s.t 3=vP 3 1 0/\s.t 4=vP 4 1 0/\s.t 6=vP 6 1 0/\s.t 9=vI v9/\s.t 44=vB dw/\s.h 2=(1,oX 112 (M.aHB.en p0))/\s.h 3=(1,oX 633 (M.lW.en p1))/\s.h 4=(1,DY)/\s.h 6=(1,oB 112 [cS x1.Name,cI x1.aHA,.row 300012 1,.row 400012 1])/\s.h 300012=(1,oW 117 3 M.aC.en x1.aHP)/\s.h 400012=(1,oW 471 2 M.aN.en x1.aHX)/\True) ?_ ?_
  ·replace h:=cr;clear cr;rcases Cw (decide (v9<(List.length p0.aHP:Int)))with cw | cw;(replace h:=bF cw h;refine rd mixed ?_;cases h;refine dV ⟨?_,?_,?_,?_,?_,?_,?_,?_,?_,?_,?_,?_,trivial⟩<;>(try simp +decide only[F,reduceIte,Nat.reduceAdd,qB,qC,EN, *,-h]));replace h:=bG cw h;obtain⟨fz,dy,h⟩:=bind_some h;obtain⟨g0,g7,g8⟩:=rR dy;refine rd mixed ?_;cases h;refine dV ⟨?_,?_,?_,?_,?_,?_,?_,?_,?_,?_,?_,?_,trivial⟩<;>(try simp +decide only[F,reduceIte,Nat.reduceAdd,qB,qC,EN, *,-h])
  clear cr
  rintro bt f40
  rcases dP dw with ak | ak
  ·replace h:=bG ak h;refine ct (sk (an (bk (rn ?_))));refine ab ?_;refine dV ⟨mL1,jF,IntKind.i64.wrap (v9+1),?_,?_,?_,?_,?_,?_,?_,?_,?_,?_,?_,h⟩;all_goals simp +decide only[F,reduceIte,Nat.reduceAdd,qB,qC,EN, *,-h]
  replace h:=bF ak h
  refine cf (xt (EP (EF (Js (an (sq ?_))))))
  obtain⟨g9,bu,h⟩:=bind_some h
  obtain⟨ga,dz,h⟩:=bind_some h
  apply bE
  ·simp +decide only[E,reduceIte,Nat.reduceAdd,Nat.reduceMul,qB,qC,<-List.map_take,<-List.map_drop,L,QB,LB,QQ,M.aC.en,EN,ah,f40,ak]
   refine⟨by first | exact rM bu | exact(rM bu).2 | exact(rM bu).2.2,?_⟩
   try simp +decide only[E,reduceIte,Nat.reduceAdd,Nat.reduceMul,qB,qC,<-List.map_take,<-List.map_drop,L,QB,LB,QQ,M.aC.en,EN,ah,f40,ak]
   refine⟨by(have hb:=gO dz);simp[M.aC.en,qE,aP,<-List.map_take,<-List.map_drop,-List.map_take,-List.map_drop]at hb ⊢ <;> omega,?_⟩
   try simp +decide only[E,reduceIte,Nat.reduceAdd,Nat.reduceMul,qB,qC,<-List.map_take,<-List.map_drop,L,QB,LB,QQ,M.aC.en,EN,ah,f40,ak]
   exact Is.mk _
  refine an (sq ?_)
  refine cu (λs=>s.t 2=vP 2 1 0/\s.t 3=vP 3 1 0/\s.t 4=vP 4 1 0/\s.t 6=vP 6 1 0/\s.t 9=vI v9/\s.t 10=vR 100047 (((bt.h 100047).1+1)+1)/\s.h 2=(1,oX 112 (M.aHB.en p0))/\s.h 3=(1,oX 633 (M.lW.en p1))/\s.h 4=(1,DY)/\s.h 6=(1,oB 112 [cS x1.Name,cI x1.aHA,.row 300012 1,.row 400012 1])/\s.h 100047=(((bt.h 100047).1+1)+1,oW 117 3 M.aC.en (List.take v9.toNat x1.aHP))/\s.h 300012=(1,.row 117 3 (KO 3 0 v9.toNat (List.map M.aC.en x1.aHP)) true)/\s.h 400012=(1,oW 471 2 M.aN.en x1.aHX)/\True) ?_
  rintro gb f64
  obtain⟨gd,ef,h⟩:=bind_some h
  refine rn1 ef ?_
  refine an ?_
  refine cu (λs=>s.t 2=vP 2 1 0/\s.t 4=vP 4 1 0/\s.t 6=vP 6 1 0/\s.t 9=vI v9/\s.t 10=vR 100047 ((((bt.h 100047).1+1)+1)+1)/\s.h 2=(1,oX 112 (M.aHB.en p0))/\s.h 4=(1,DY)/\s.h 6=(1,oB 112 [cS x1.Name,cI x1.aHA,.row 300012 1,.row 400012 1])/\s.h 100047=((((bt.h 100047).1+1)+1)+1,oW 117 3 M.aC.en ((List.take v9.toNat x1.aHP)++[(⟨p1.aC,([]:List M.aHV),0⟩:M.aC)]))/\s.h 300012=(1,.row 117 3 (KO 3 0 v9.toNat (List.map M.aC.en x1.aHP)) true)/\s.h 400012=(1,oW 471 2 M.aN.en x1.aHX)/\True) ?_
  rintro gh f80
  obtain⟨gi,eg,h⟩:=bind_some h
  apply bE
  ·simp +decide only[E,reduceIte,Nat.reduceAdd,Nat.reduceMul,qB,qC,<-List.map_take,<-List.map_drop,L,QB,LB,QQ,M.aC.en,EN,ah,ak,f80]
   refine⟨by first | exact Pp (rM bu).1 | exact(Pp (rM bu).1).2 | exact(Pp (rM bu).1).2.2,?_⟩
   try simp +decide only[E,reduceIte,Nat.reduceAdd,Nat.reduceMul,qB,qC,<-List.map_take,<-List.map_drop,L,QB,LB,QQ,M.aC.en,EN,ah,ak,f80]
   refine⟨by(have hb:=gO eg);simp[M.aC.en,qE,aP,<-List.map_take,<-List.map_drop,-List.map_take,-List.map_drop]at hb ⊢ <;> omega,?_⟩
   try simp +decide only[E,reduceIte,Nat.reduceAdd,Nat.reduceMul,qB,qC,<-List.map_take,<-List.map_drop,L,QB,LB,QQ,M.aC.en,EN,ah,ak,f80]
   exact Is.mk _
  refine ab (an (sq ?_))
  refine cu (λs=>s.t 2=vP 2 1 0/\s.t 4=vP 4 1 0/\s.t 6=vP 6 1 0/\s.h 2=(1,oX 112 (M.aHB.en p0))/\s.h 4=(1,DY)/\s.h 6=(1,oB 112 [cS x1.Name,cI x1.aHA,.row 100047 (((((bt.h 100047).1+1)+1)+1)+1),.row 400012 1])/\s.h 100047=(((((bt.h 100047).1+1)+1)+1)+1,oW 117 3 M.aC.en (((List.take v9.toNat x1.aHP)++[(⟨p1.aC,([]:List M.aHV),0⟩:M.aC)])++(List.drop v9.toNat x1.aHP)))/\s.h 400012=(1,oW 471 2 M.aN.en x1.aHX)/\True) ?_
  rintro dx f94
  obtain⟨bw,aq,h⟩:=bind_some h
  refine sD (λs=>s.h 6=dx.h 6/\s.h 100047=dx.h 100047/\s.t 2=vP 2 1 0/\s.t 4=vP 4 1 0/\s.t 6=vP 6 1 0/\s.t 126=vB bw/\s.h 2=(1,oX 112 (M.aHB.en p0))/\s.h 4=(1,DY)/\s.h 400012=(1,oW 471 2 M.aN.en x1.aHX)/\True) ?_ ?_
  ·replace h:=aq;clear aq;obtain⟨cx,bx,h⟩:=bind_some h;rcases dP (!cx)with ar | ar;(replace h:=bG ar h;refine rn1 (Sf.1 _ _ bx) ?_;cases h;refine dV ⟨?_,?_,?_,?_,?_,?_,?_,?_,?_,trivial⟩<;>(try simp +decide only[F,reduceIte,Nat.reduceAdd,qB,qC,EN, *,-h]));replace h:=bF ar h;obtain⟨eh,cy,h⟩:=bind_some h;refine rn2 (Sf.1 _ _ bx) (Sf.1 _ _ cy) ?_;cases h;refine dV ⟨?_,?_,?_,?_,?_,?_,?_,?_,?_,trivial⟩<;>(try simp +decide only[F,reduceIte,Nat.reduceAdd,qB,qC,EN, *,-h])
  clear aq
  rintro el ⟨f111,f112,f105⟩
  replace f111:=f111.trans f94.2.2.2.2.2.1
  replace f112:=f112.trans f94.2.2.2.2.2.2.1
  rcases Cw bw with av | av
  ·replace h:=bF av h;refine cf (sk (an (sq (rn ?_))));refine an (rt ?_);cases h;simp[Ret,TB,EN, *]
  replace h:=bG av h
  refine ct (sq ?_)
  obtain⟨et,cz,h⟩:=bind_some h
  refine rn1 (Yw.1 _ _ cz) ?_
  refine an (rt ?_)
  cases h
  simp[Ret,TB,EN, *]
 replace h:=bF ah h
 refine cf ?_
 obtain⟨bz,aw,h⟩:=bind_some h
 refine sD (λs=>s.t 2=vP 2 1 0/\s.t 3=vP 3 1 0/\s.t 4=vP 4 1 0/\s.t 6=vP 6 1 0/\s.t 7=vI x3/\s.t 8=vI x5/\s.t 66=vB bz/\s.h 2=(1,oX 112 (M.aHB.en p0))/\s.h 3=(1,oX 633 (M.lW.en p1))/\s.h 4=(1,DY)/\s.h 6=(1,oB 112 [cS x1.Name,cI x1.aHA,.row 300012 1,.row 400012 1])/\s.h 300012=(1,oW 117 3 M.aC.en x1.aHP)/\s.h 400012=(1,oW 471 2 M.aN.en x1.aHX)/\True) ?_ ?_
 ·replace h:=aw;clear aw;rcases dP (p1.aHb==2)with ax | ax;(replace h:=bG ax h;refine rn ?_;cases h;refine dV ⟨?_,?_,?_,?_,?_,?_,?_,?_,?_,?_,?_,?_,?_,trivial⟩<;>(try simp +decide only[F,reduceIte,Nat.reduceAdd,qB,qC,EN, *,-h]));replace h:=bF ax h;refine rn ?_;cases h;refine dV ⟨?_,?_,?_,?_,?_,?_,?_,?_,?_,?_,?_,?_,?_,trivial⟩<;>(try simp +decide only[F,reduceIte,Nat.reduceAdd,qB,qC,EN, *,-h])
 clear aw
 rintro al f125
 rcases dP bz with aa | aa
 ·replace h:=bG aa h;refine ct ?_;obtain⟨ao,da,h⟩:=bind_some h;refine rn1 (aGS _ _ _ da) ?_;refine ab (an (sq ?_));obtain⟨c9,ay,h⟩:=bind_some h;refine sD (λs=>s.t 2=vP 2 1 0/\s.t 4=vP 4 1 0/\s.t 6=vP 6 1 0/\s.t 126=vB c9/\s.h 2=(1,oX 112 (M.aHB.en p0))/\s.h 4=(1,DY)/\s.h 6=(1,oB 112 [cS ao.Name,cI ao.aHA,.row 300077 ((al.h 300077).1+1),.row 400077 ((al.h 400077).1+1)])/\s.h 300077=((al.h 300077).1+1,oW 117 3 M.aC.en ao.aHP)/\s.h 400077=((al.h 400077).1+1,oW 471 2 M.aN.en ao.aHX)/\True) ?_ ?_;(replace h:=ay;clear ay;obtain⟨db,ca,h⟩:=bind_some h;rcases dP (!db)with az | az;(replace h:=bG az h;refine rn1 (Sf.1 _ _ ca) ?_;cases h;refine dV ⟨?_,?_,?_,?_,?_,?_,?_,?_,?_,trivial⟩<;>(try simp +decide only[F,reduceIte,Nat.reduceAdd,qB,qC,EN, *,-h]));replace h:=bF az h;obtain⟨eu,df,h⟩:=bind_some h;refine rn2 (Sf.1 _ _ ca) (Sf.1 _ _ df) ?_;cases h;refine dV ⟨?_,?_,?_,?_,?_,?_,?_,?_,?_,trivial⟩<;>(try simp +decide only[F,reduceIte,Nat.reduceAdd,qB,qC,EN, *,-h]));clear ay;rintro fa f145;rcases Cw c9 with ba | ba;(replace h:=bF ba h;refine cf (sk (an (sq (rn ?_))));refine an (rt ?_);cases h;simp[Ret,TB,EN, *]);replace h:=bG ba h;refine ct (sq ?_);obtain⟨fc,dg,h⟩:=bind_some h;refine rn1 (Yw.1 _ _ dg) ?_;refine an (rt ?_);cases h;simp[Ret,TB,EN, *]
 replace h:=bF aa h
 refine cf ?_
 obtain⟨cd,bd,h⟩:=bind_some h
 refine sD (λs=>s.t 2=vP 2 1 0/\s.t 3=vP 3 1 0/\s.t 4=vP 4 1 0/\s.t 6=vP 6 1 0/\s.t 8=vI x5/\s.t 78=vB cd/\s.h 2=(1,oX 112 (M.aHB.en p0))/\s.h 3=(1,oX 633 (M.lW.en p1))/\s.h 4=(1,DY)/\s.h 6=(1,oB 112 [cS x1.Name,cI x1.aHA,.row 300012 1,.row 400012 1])/\s.h 300012=(1,oW 117 3 M.aC.en x1.aHP)/\s.h 400012=(1,oW 471 2 M.aN.en x1.aHX)/\True) ?_ ?_
 ·replace h:=bd;clear bd;rcases Cw (p1.aHb==3)with bf | bf;(replace h:=bF bf h;refine rn ?_;cases h;refine dV ⟨?_,?_,?_,?_,?_,?_,?_,?_,?_,?_,?_,?_,trivial⟩<;>(try simp +decide only[F,reduceIte,Nat.reduceAdd,qB,qC,EN, *,-h]));replace h:=bG bf h;rcases dP (decide (x3>=0))with bg | bg;(replace h:=bG bg h;refine rn ?_;cases h;refine dV ⟨?_,?_,?_,?_,?_,?_,?_,?_,?_,?_,?_,?_,trivial⟩<;>(try simp +decide only[F,reduceIte,Nat.reduceAdd,qB,qC,EN, *,-h]));replace h:=bF bg h;refine rn ?_;cases h;refine dV ⟨?_,?_,?_,?_,?_,?_,?_,?_,?_,?_,?_,?_,trivial⟩<;>(try simp +decide only[F,reduceIte,Nat.reduceAdd,qB,qC,EN, *,-h])
 clear bd
 rintro fe f165
 rcases dP cd with ae | ae
 ·replace h:=bG ae h;refine ct ?_;obtain⟨ff,dh,h⟩:=bind_some h;refine rn1 dh ?_;refine ab (an (sq ?_));refine cu (λs=>s.t 2=vP 2 1 0/\s.t 4=vP 4 1 0/\s.t 6=vP 6 1 0/\s.h 2=(1,oX 112 (M.aHB.en p0))/\s.h 4=(1,DY)/\s.h 6=(1,oB 112 [cS x1.Name,cI x1.aHA,.row 300012 1,.row 400012 2])/\s.h 300012=(1,oW 117 3 M.aC.en x1.aHP)/\s.h 400012=(2,oW 471 2 M.aN.en (x1.aHX++[(⟨p1.aC,p1.Field⟩:M.aN)]))/\True) ?_;rintro di f183;obtain⟨cg,bh,h⟩:=bind_some h;refine sD (λs=>s.h 400012=di.h 400012/\s.t 2=vP 2 1 0/\s.t 4=vP 4 1 0/\s.t 6=vP 6 1 0/\s.t 126=vB cg/\s.h 2=(1,oX 112 (M.aHB.en p0))/\s.h 4=(1,DY)/\s.h 6=(1,oB 112 [cS x1.Name,cI x1.aHA,.row 300012 1,.row 400012 2])/\s.h 300012=(1,oW 117 3 M.aC.en x1.aHP)/\True) ?_ ?_;(replace h:=bh;clear bh;obtain⟨dj,cj,h⟩:=bind_some h;rcases dP (!dj)with bj | bj;(replace h:=bG bj h;refine rn1 (Sf.1 _ _ cj) ?_;cases h;refine dV ⟨?_,?_,?_,?_,?_,?_,?_,?_,?_,trivial⟩<;>(try simp +decide only[F,reduceIte,Nat.reduceAdd,qB,qC,EN, *,-h]));replace h:=bF bj h;obtain⟨fg,dk,h⟩:=bind_some h;refine rn2 (Sf.1 _ _ cj) (Sf.1 _ _ dk) ?_;cases h;refine dV ⟨?_,?_,?_,?_,?_,?_,?_,?_,?_,trivial⟩<;>(try simp +decide only[F,reduceIte,Nat.reduceAdd,qB,qC,EN, *,-h]));clear bh;rintro fh ⟨f202,f194⟩;replace f202:=f202.trans f183.2.2.2.2.2.2.2.1;rcases Cw cg with bl | bl;(replace h:=bF bl h;refine cf (sk (an (sq (rn ?_))));refine an (rt ?_);cases h;simp[Ret,TB,EN, *]);replace h:=bG bl h;refine ct (sq ?_);obtain⟨fj,dm,h⟩:=bind_some h;refine rn1 (Yw.1 _ _ dm) ?_;refine an (rt ?_);cases h;simp[Ret,TB,EN, *]
 replace h:=bF ae h
 refine cf ?_
 obtain⟨ck,bm,h⟩:=bind_some h
 refine sD (λs=>s.t 2=vP 2 1 0/\s.t 4=vP 4 1 0/\s.t 6=vP 6 1 0/\s.t 8=vI x5/\s.t 100=vB ck/\s.h 2=(1,oX 112 (M.aHB.en p0))/\s.h 4=(1,DY)/\s.h 6=(1,oB 112 [cS x1.Name,cI x1.aHA,.row 300012 1,.row 400012 1])/\s.h 300012=(1,oW 117 3 M.aC.en x1.aHP)/\s.h 400012=(1,oW 471 2 M.aN.en x1.aHX)/\True) ?_ ?_
 ·replace h:=bm;clear bm;rcases dP (p1.aHb==4)with bn | bn;(replace h:=bG bn h;refine rn ?_;cases h;refine dV ⟨?_,?_,?_,?_,?_,?_,?_,?_,?_,?_,trivial⟩<;>(try simp +decide only[F,reduceIte,Nat.reduceAdd,qB,qC,EN, *,-h]));replace h:=bF bn h;refine rn ?_;cases h;refine dV ⟨?_,?_,?_,?_,?_,?_,?_,?_,?_,?_,trivial⟩<;>(try simp +decide only[F,reduceIte,Nat.reduceAdd,qB,qC,EN, *,-h])
 clear bm
 rintro fk f214
 rcases Cw ck with af | af
 ·replace h:=bF af h;refine cf (sq (rn ?_));refine an (rt ?_);cases h;simp[Ret,TB,EN, *]
 replace h:=bG af h
 refine ct ?_
 obtain⟨fm,ai,h⟩:=bind_some h
 obtain⟨fo,aj,h⟩:=bind_some h
 obtain⟨fq,cl,h⟩:=bind_some h
 apply BO mixed
 ·simp +decide only[E,reduceIte,Nat.reduceAdd,Nat.reduceMul,qB,qC,<-List.map_take,<-List.map_drop,Nat.sub_zero,L,Um,LB,US,M.aN.en,EN,ah,aa,ae,f214,af]
  refine⟨by first | exact rM ai | exact(rM ai).2 | exact(rM ai).2.2,?_⟩
  try simp +decide only[E,reduceIte,Nat.reduceAdd,Nat.reduceMul,qB,qC,<-List.map_take,<-List.map_drop,Nat.sub_zero,L,Um,LB,US,M.aN.en,EN,ah,aa,ae,f214,af]
  refine⟨by first | exact AZ aj | exact(AZ aj).2 | exact(AZ aj).2.2,?_⟩
  try simp +decide only[E,reduceIte,Nat.reduceAdd,Nat.reduceMul,qB,qC,<-List.map_take,<-List.map_drop,Nat.sub_zero,L,Um,LB,US,M.aN.en,EN,ah,aa,ae,f214,af]
  refine⟨by first | exact EJ (f:=M.aN.en) (sz:=2) (λ_=>rfl) jI ai aj cl | (have hb:=EJ (f:=M.aN.en) (sz:=2) (λ_=>rfl) jI ai aj cl;simpa using hb),?_⟩
  try simp +decide only[E,reduceIte,Nat.reduceAdd,Nat.reduceMul,qB,qC,<-List.map_take,<-List.map_drop,Nat.sub_zero,L,Um,LB,US,M.aN.en,EN,ah,aa,ae,f214,af]
  exact⟨.mk jJ,Is.mk _⟩
 refine ab (an (sq ?_))
 refine cu (λs=>s.t 2=vP 2 1 0/\s.t 4=vP 4 1 0/\s.t 6=vP 6 1 0/\s.h 2=(1,oX 112 (M.aHB.en p0))/\s.h 4=(1,DY)/\s.h 6=(1,oB 112 [cS x1.Name,cI x1.aHA,.row 300012 1,.row 400012 2])/\s.h 300012=(1,oW 117 3 M.aC.en x1.aHP)/\s.h 400012=(2,oW 471 2 M.aN.en ((List.take x5.toNat x1.aHX)++(List.drop (IntKind.i64.wrap (x5+1)).toNat x1.aHX)))/\True) ?_
 rintro dn f233
 obtain⟨cn,bo,h⟩:=bind_some h
 refine sD (λs=>s.h 400012=dn.h 400012/\s.t 2=vP 2 1 0/\s.t 4=vP 4 1 0/\s.t 6=vP 6 1 0/\s.t 126=vB cn/\s.h 2=(1,oX 112 (M.aHB.en p0))/\s.h 4=(1,DY)/\s.h 6=(1,oB 112 [cS x1.Name,cI x1.aHA,.row 300012 1,.row 400012 2])/\s.h 300012=(1,oW 117 3 M.aC.en x1.aHP)/\True) ?_ ?_
 ·replace h:=bo;clear bo;obtain⟨dq,cp,h⟩:=bind_some h;rcases dP (!dq)with bq | bq;(replace h:=bG bq h;refine rn1 (Sf.1 _ _ cp) ?_;cases h;refine dV ⟨?_,?_,?_,?_,?_,?_,?_,?_,?_,trivial⟩<;>(try simp +decide only[F,reduceIte,Nat.reduceAdd,qB,qC,EN, *,-h]));replace h:=bF bq h;obtain⟨ft,dr,h⟩:=bind_some h;refine rn2 (Sf.1 _ _ cp) (Sf.1 _ _ dr) ?_;cases h;refine dV ⟨?_,?_,?_,?_,?_,?_,?_,?_,?_,trivial⟩<;>(try simp +decide only[F,reduceIte,Nat.reduceAdd,qB,qC,EN, *,-h])
 clear bo
 rintro fw ⟨f252,f244⟩
 replace f252:=f252.trans f233.2.2.2.2.2.2.2.1
 rcases Cw cn with br | br
 ·replace h:=bF br h;refine cf (sk (an (sq (rn ?_))));refine an (rt ?_);cases h;simp[Ret,TB,EN, *]
 replace h:=bG br h
 refine ct (sq ?_)
 obtain⟨fx,du,h⟩:=bind_some h
 refine rn1 (Yw.1 _ _ du) ?_
 refine an (rt ?_)
 cases h
 simp[Ret,TB,EN, *]⟩
instance:bK 473 (∀p0 r (h:wI p0=some r),Sc 473 [(false,[.ptr [.sl (List.map enB p0.b),.int .i64 p0.i,.int .i64 p0.h]])] [(false,[.edit (.lend 304 [.int .i64 r.1,.int .i64 r.2.1])]),(true,M.aHO.rs r.2.2)]):=⟨λp0 r h=>by
 unfold wI at h
 simp only[EN]
 refine sgB 36 [.cell 2 205] Tryz.func473 λbase wd B0 u0 hw0=> ?_
 refine eE (J:=λs=>s.t 0=vP 7059000 1 0/\s.h 7059000=(1,oB 304 [.old B0 (.sl (List.map enB p0.b)) (some u0),cI p0.i,cI p0.h])/\True) ?_ ?_
 ·and_intros<;>(try simp only[LN,List.map_cons,List.map_nil])<;>rfl
 rintro s1 f2
 have i1:=ES [.b 3 1 7050000 260 4,.b 3 3 7050001 325 2,.b 3 4 7050002 328 7] λm s=>∃v4:Int,∃ao:ByteArray,∃aq:Int,∃aa:Int,∃ae:Int,∃af:List M.aHV,∃ah:List M.aO,∃ai:List M.bB,∃aj:Nat,∃ak:Nat,∃al:Nat,(s.t 0=vP 7059000 1 0/\s.t 2=vP 2 ((s1.h 2).1+1) 0/\s.t 3=vP 3 ((s1.h 3).1+1) 0/\s.t 4=vI v4/\s.h 2=((s1.h 2).1+1,W5)/\s.h 3=((s1.h 3).1+1,oB 205 [cS ao,.row 7050000 aj,cI aq,.row 7050001 ak,.row 7050002 al])/\s.h 7050000=(aj,oW 260 4 M.aHV.en af)/\s.h 7050001=(ak,oW 325 2 M.aO.en ah)/\s.h 7050002=(al,oW 328 7 M.bB.en ai)/\s.h 7059000=(1,oB 304 [.old B0 (.sl (List.map enB p0.b)) (some u0),cI aa,cI ae]))/\mH p0 m v4 ao aq aa ae af ah ai=some r
 have e1:=@mH.eq_2
 exact sgX⟩
instance:bK 628 (∀p0 p1 p2 p3 r (h:AQ p0 p1 p2 p3=some r),Sc 628 [aX (M.aHY.en p0),aX (M.aHO.en p1),aI p2,aI p3] [(true,M.aHY.rs r.1),(true,M.aHO.rs r.2.1),rI r.2.2]):=⟨λp0 p1 p2 p3 r h=>by unfold AQ at h;exact sgo 113 [.cell 8 122,.cell 9 205,.tmp 10] Tryz.func628⟩
instance:bK 629 (∀p0 p1 r (h:xK p0 p1=some r),Sc 629 [aX (M.aE.en p0),aX (M.aHO.en p1)] [(true,M.aE.rs r.1),rI r.2]):=⟨λp0 p1 r h=>by unfold xK at h;exact sgo 64 [.cell 4 124,.tmp 5] Tryz.func629⟩
instance:bK 474 (∀p0 r (h:BV p0=some r),Sc 474 [(false,[.ptr [.sl (List.map enB p0.b),.int .i64 p0.i,.int .i64 p0.h]])] [(false,[.edit (.lend 304 [.int .i64 r.1,.int .i64 r.2.1])]),(true,M.aC.rs r.2.2)]):=⟨λp0 r h=>by
 unfold BV at h
 simp only[EN]
 refine sgB 50 [.cell 2 117] Tryz.func474 λbase wd B0 u0 hw0=> ?_
 refine eE (J:=λs=>s.t 0=vP 7059000 1 0/\s.h 7059000=(1,oB 304 [.old B0 (.sl (List.map enB p0.b)) (some u0),cI p0.i,cI p0.h])/\True) ?_ ?_
 ·and_intros<;>(try simp only[LN,List.map_cons,List.map_nil])<;>rfl
 rintro s1 f2
 have i1:=λ(ai:(Int×Int×Int)) (s16:St)=>ES [.b 3 1 7050000 260 4] λm s=>∃af:ByteArray,∃ah:Int,∃aa:List M.aHV,∃ae:Nat,(s.h 7059000=s16.h 7059000/\s.t 0=vP 7059000 1 0/\s.t 2=vP 2 ((s1.h 2).1+1) 0/\s.t 3=vP 3 ((s1.h 3).1+1) 0/\s.h 2=((s1.h 2).1+1,oB 117 [cS (⟨#[]⟩:ByteArray),.nil,cI 0])/\s.h 3=((s1.h 3).1+1,oB 117 [cS af,.row 7050000 ae,cI ah])/\s.h 7050000=(ae,oW 260 4 M.aHV.en aa))/\zF ai m af ah aa=some r
 have e1:=@zF.eq_2
 exact sgX⟩
theorem aGd(p0 r)(h:A9 p0=some r):Sc 377 [(false,[.ptr [.sl (List.map enB p0.b),.int .i64 p0.i,.int .i64 p0.h]])] [(false,[.edit (.lend 304 [.int .i64 r.1,.int .i64 r.2.1])]),(true,M.bC.rs r.2.2)]:=by
 unfold A9 at h
 simp only[EN]
 refine sgB 51 [.cell 2 67] Tryz.func377 λbase wd I u0 hw0=> ?_
 refine eE (J:=λs=>s.t 0=vP 7059000 1 0/\s.h 7059000=(1,oB 304 [.old I (.sl (List.map enB p0.b)) (some u0),cI p0.i,cI p0.h])/\True) ?_ ?_
 ·and_intros<;>(try simp only[LN,List.map_cons,List.map_nil])<;>rfl
 rintro s1 f2
 have i1:=λ(x4:(Int×Int×M.bC)) (U:(Int×Int×Int)) (ae:St)=>inv λm s=>∃j:List M.aT,∃C:Nat,(s.h 7059000=ae.h 7059000/\s.t 0=vP 7059000 1 0/\s.t 2=vP 2 ((s1.h 2).1+1) 0/\s.t 3=vP 3 ((s1.h 3).1+1) 0/\s.h 2=((s1.h 2).1+1,Xz)/\s.h 3=((s1.h 3).1+1,oB 67 [cI x4.2.2.Id,cS x4.2.2.aHL,cS x4.2.2.Top,cI x4.2.2.aHA,.row 500005 C,.row 600005 ((s1.h 600005).1+1),cI x4.2.2.aHJ.Pc,.row 800005 ((s1.h 800005).1+1),cI x4.2.2.aHJ.aHy,cB x4.2.2.aHJ.aH5,cB x4.2.2.aHJ.aH6])/\s.h 500005=(C,oW 81 2 M.aT.en j)/\s.h 600005=((s1.h 600005).1+1,oW 308 4 M.Instr.en x4.2.2.aHJ.aHt)/\s.h 800005=((s1.h 800005).1+1,oW 3 1 enI x4.2.2.aHJ.aH1))/\wE x4 U m j=some r
 have e1:=@wE.eq_2
 exact sgX
