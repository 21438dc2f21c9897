/-
  Helper text. No conditions.
-/
import Derived.Test.YtbpbocchokbggaaGreatUpdatesWspec6
import Derived.Test.YtbpbocchokbggaaGreatUpdatesWspec7
set_option linter.all false
namespace Go.Proofs.YtbpbocchokbggaaGreat.gen
open Go Go.Sh
set_option maxRecDepth 20000
set_option maxHeartbeats 4000000
instance c43:bE 43 (∀p0 r (h:bQ p0=some r),Sc 43 [aX (M.World.en p0)] [(true,M.World.rs r)]):=⟨λp0 r h=>by
 have i1:=λ(x1:M.aA)=>inv λm s=>∃v4:Int,∃ae:List M.bG,∃af:Nat,(s.t 1=vP 1 1 0/\s.t 2=vP 2 1 0/\s.t 3=vP 3 1 0/\s.t 4=vI v4/\s.h 1=(1,oX 58 (M.World.en p0))/\s.h 2=(1,Q6)/\s.h 3=(1,oB 58 [cI p0.Now,cB p0.aJV,cI p0.aJA,.row 100010 1,.row 100012 af,cI p0.aJG,cL M.mV.en p0.aJJ.aJJ,cL M.AP.en p0.aJD.aJe,cL M.aI7.en p0.aJL,cL M.aJC.en p0.aJK])/\s.h 100010=(1,oW 126 24 M.aI3.en x1.aI4)/\s.h 100012=(af,oW 67 11 M.bG.en ae))/\nL p0 x1 m v4 ae=some r
 have e1:=@nL.eq_2
 have i2:=λ(x1:M.aA) (ae:List M.bG) (ah:M.aQ) (ai:M.aJD) (aa:St) (af:Nat)=>inv λm s=>∃v5:Int,∃aj:List M.aI7,∃ak:Nat,(s.t 1=vP 1 1 0/\s.t 2=vP 2 1 0/\s.t 3=vP 3 1 0/\s.t 5=vI v5/\s.h 1=(1,oX 58 (M.World.en p0))/\s.h 2=(1,Q6)/\s.h 3=(1,oB 58 [cI p0.Now,cB p0.aJV,cI p0.aJA,.row 100010 1,.row 100012 af,cI p0.aJG,.row 100034 ((aa.h 100034).1+1),.row 100038 ((aa.h 100038).1+1),.row 100040 ak,cL M.aJC.en p0.aJK])/\s.h 100010=(1,oW 126 24 M.aI3.en x1.aI4)/\s.h 100012=(af,oW 67 11 M.bG.en ae)/\s.h 100034=((aa.h 100034).1+1,oW 196 4 M.mV.en ah.aJJ)/\s.h 100038=((aa.h 100038).1+1,oW 199 3 M.AP.en ai.aJe)/\s.h 100040=(ak,oW 92 4 M.aI7.en aj))/\kM p0 x1 ae ah ai m v5 aj=some r
 have e2:=@kM.eq_2
 have i3:=λ(x1:M.aA) (ae:List M.bG) (ah:M.aQ) (ai:M.aJD) (aj:List M.aI7) (aa:St) (af:Nat) (ak:Nat)=>inv λm s=>∃v6:Int,∃al:List M.aJC,∃ao:Nat,(s.t 1=vP 1 1 0/\s.t 2=vP 2 1 0/\s.t 3=vP 3 1 0/\s.t 6=vI v6/\s.h 1=(1,oX 58 (M.World.en p0))/\s.h 2=(1,Q6)/\s.h 3=(1,oB 58 [cI p0.Now,cB p0.aJV,cI p0.aJA,.row 100010 1,.row 100012 af,cI p0.aJG,.row 100034 ((aa.h 100034).1+1),.row 100038 ((aa.h 100038).1+1),.row 100040 ak,.row 100060 ao])/\s.h 100010=(1,oW 126 24 M.aI3.en x1.aI4)/\s.h 100012=(af,oW 67 11 M.bG.en ae)/\s.h 100034=((aa.h 100034).1+1,oW 196 4 M.mV.en ah.aJJ)/\s.h 100038=((aa.h 100038).1+1,oW 199 3 M.AP.en ai.aJe)/\s.h 100040=(ak,oW 92 4 M.aI7.en aj)/\s.h 100060=(ao,oW 205 5 M.aJC.en al))/\kJ p0 x1 ae ah ai aj m v6 al=some r
 have e3:=@kJ.eq_2
 unfold bQ at h
 exact sgo 81 [.cell 2 58] Tryz.func43⟩
instance:bE 394 (∀p0 r (h:B8 p0=some r),Sc 394 [aX (M.aI3.en p0)] [rI r]):=⟨λp0 r h=>by unfold B8 at h;exact sgo 23 [.tmp 2] Tryz.func394⟩
instance Zr:bE 252 (∀p0 r (h:oT p0=some r),Sc 252 [aX (M.aI3.en p0)] [rB r]):=⟨λp0 r h=>by unfold oT at h;exact sgo 50 [.tmp 2] Tryz.func252⟩
instance:bE 258 (∀p0 p1 p2 p3 p4 r (h:oM p0 p1 p2 p3 p4=some r),Sc 258 [aX (M.aC.en p0),aX (M.aI7.en p1),aI p2,aS p3,aB p4] [(true,M.aI8.rs r)]):=⟨λp0 p1 p2 p3 p4 r h=>by unfold oM at h;exact sgo 30 [.cell 10 189] Tryz.func258⟩
instance:bE 110 (∀p0 p1 p2 r (h:pH p0 p1 p2=some r),Sc 110 [aX (M.World.en p0),aX (M.bG.en p1),aS p2] [(true,M.aI8.rs r)]):=⟨λp0 p1 p2 r h=>by unfold pH at h;exact sgo 44 [.cell 6 189] Tryz.func110⟩
instance:bE 141 (∀p0 p1 p2 p3 r (h:wC p0 p1 p2 p3=some r),Sc 141 [aX (M.aC.en p0),aX (M.aI7.en p1),aI p2,aB p3] [(true,M.aC.rs r.1),rB r.2]):=⟨λp0 p1 p2 p3 r h=>by
 have i1:=E5 [.b 10 0 7050000 345 2] λm s=>∃af:Int,∃aa:List M.aI5,∃ae:Nat,(s.t 2=vI p2/\s.t 4=vP 4 1 0/\s.t 5=vP 5 1 0/\s.t 8=vP 8 1 0/\s.t 10=vP 10 1 0/\s.t 12=vI af/\s.h 4=(1,oX 108 (M.aC.en p0))/\s.h 5=(1,oX 92 (M.aI7.en p1))/\s.h 8=(1,oB 108 [.nil])/\s.h 10=(1,oB 108 [.row 7050000 ae])/\s.h 7050000=(ae,oW 345 2 M.aI5.en aa))/\lH p0 p1 p2 m af aa=some r
 have e1:=@lH.eq_2
 unfold wC at h
 exact sgo 69 [.cell 8 108,.tmp 9] Tryz.func141⟩
instance:bE 311 (∀p0 p1 r (h:Cm p0 p1=some r),Sc 311 [aX (M.aI2.en p0),aX (M.Op.en p1)] [(true,M.aI2.rs r.1),rI r.2.1,rB r.2.2]):=⟨λp0 p1 r h=>by unfold Cm at h;exact sgo 58 [.cell 4 112,.tmp 5,.tmp 6] Tryz.func311⟩
instance:bE 171 (∀p0 p1 r (h:Ak p0 p1=some r),Sc 171 [aX (M.aI2.en p0),aL M.Op.en p1] [(true,M.aI2.rs r.1),rW 3 1 enI r.2.1,rB r.2.2]):=⟨λp0 p1 r h=>by
 have i1:=E5 [.b 7 2 7050000 117 3,.b 7 3 7050001 471 2] λm s=>∃v9:Int,∃ai:ByteArray,∃aj:Int,∃ak:List Int,∃aa:List M.aD,∃ae:List M.aN,∃al:Nat,∃af:Nat,∃ah:Nat,(s.t 1=vL M.Op.en p1/\s.t 2=vP 2 1 0/\s.t 4=vP 4 1 0/\s.t 7=vP 7 1 0/\s.t 8=vR 100015 al/\s.t 9=vI v9/\s.h 2=(1,oX 112 (M.aI2.en p0))/\s.h 4=(1,Ey)/\s.h 7=(1,oB 112 [cS ai,cI aj,.row 7050000 af,.row 7050001 ah])/\s.h 100015=(al,oW 3 1 enI ak)/\s.h 7050000=(af,oW 117 3 M.aD.en aa)/\s.h 7050001=(ah,oW 471 2 M.aN.en ae))/\wU p0 p1 m v9 ai aj ak aa ae=some r
 have e1:=@wU.eq_2
 unfold Ak at h
 exact sgo 54 [.cell 4 112,.tmp 5,.tmp 6] Tryz.func171⟩
instance:bE 599 (∀p0 r (h:BA p0=some r),Sc 599 [aX (M.aG.en p0)] [(true,M.aD.rs r)]):=⟨λp0 r h=>by unfold BA at h;exact sgo 10 [.cell 2 117] Tryz.func599⟩
instance aCJ:bE 547 (∀p0 p1 p2 p3 r (h:nK p0 p1 p2 p3=some r),Sc 547 [aX (M.aG.en p0),aX (M.Key.en p1),aS p2,aI p3] [(true,M.aG.rs r.1),rB r.2]):=⟨λp0 p1 p2 p3 r h=>by unfold nK at h;exact sgo 53 [.cell 8 124,.tmp 9] Tryz.func547⟩
instance:bE 641 (∀p0 p1 r (h:mZ p0 p1=some r),Sc 641 [aX (M.aI2.en p0),aX (M.mK.en p1)] [(true,M.aI2.rs r.1),rB r.2]):=⟨λp0 p1 r h=>by
 unfold mZ at h
 simp only[EN]
 refine sgn 130 [.cell 4 112,.tmp 5] Tryz.func641 λbase wd => ?_
 refine sq (rn ?_)
 refine an (sq ?_)
 obtain⟨x1,h2,h⟩:=bind_some h
 refine rn1 (ZV.1 _ _ h2) ?_
 refine an (sq ?_)
 obtain⟨x3,h4,h⟩:=bind_some h
 refine rn1 (aCc.1 _ _ _ h4) ?_
 refine an (sq ?_)
 obtain⟨x5,h6,h⟩:=bind_some h
 refine rn1 (aIr _ _ _ h6) ?_
 refine an (sq (bk ?_))
 obtain⟨x7,h8,h⟩:=bind_some h
 refine wJ (λs=>s.t 2=vP 2 1 0/\s.t 3=vP 3 1 0/\s.t 4=vP 4 1 0/\s.t 6=vP 6 1 0/\s.t 7=vI x3/\s.t 8=vI x5/\s.t 21=vB x7/\s.h 2=(1,oX 112 (M.aI2.en p0))/\s.h 3=(1,oX 633 (M.mK.en p1))/\s.h 4=(1,Ey)/\s.h 6=(1,oB 112 [cS x1.Name,cI x1.aI0,.row 300012 1,.row 400012 1])/\s.h 300012=(1,oW 117 3 M.aD.en x1.aJF)/\s.h 400012=(1,oW 471 2 M.aN.en x1.aJO)/\True) ?_ ?_
 ·replace h:=h8;clear h8;rcases mT (p1.aJS==1)with cp | cp;(replace h:=bZ cp h;refine rn ?_;cases h;refine iU ⟨?_,?_,?_,?_,?_,?_,?_,?_,?_,?_,?_,?_,?_,trivial⟩<;>(try simp +decide only[F,reduceIte,Nat.reduceAdd,qB,qC,EN, *,-h]));replace h:=bY cp h;refine rn ?_;cases h;refine iU ⟨?_,?_,?_,?_,?_,?_,?_,?_,?_,?_,?_,?_,?_,trivial⟩<;>(try simp +decide only[F,reduceIte,Nat.reduceAdd,qB,qC,EN, *,-h])
 clear h8
 rintro s9 f10
 rcases mT x7 with ah | ah
 ·replace h:=bZ ah h
  refine ct (sq (rn ?_))
  refine an (sq (bk ?_))
  refine JX (λm s=>∃v9:Int,s.t 2=vP 2 1 0/\s.t 3=vP 3 1 0/\s.t 4=vP 4 1 0/\s.t 6=vP 6 1 0/\s.t 9=vI v9/\s.h 2=(1,oX 112 (M.aI2.en p0))/\s.h 3=(1,oX 633 (M.mK.en p1))/\s.h 4=(1,Ey)/\s.h 6=(1,oB 112 [cS x1.Name,cI x1.aI0,.row 300012 1,.row 400012 1])/\s.h 300012=(1,oW 117 3 M.aD.en x1.aJF)/\s.h 400012=(1,oW 471 2 M.aN.en x1.aJO)/\pQ p0 p1 x1 m v9=some r) fuel ?_ ?_
  ·refine⟨0,?_,?_,?_,?_,?_,?_,?_,?_,?_,?_,?_,h⟩;all_goals simp +decide only[F,reduceIte,Nat.reduceAdd,qB,qC,EN, *,-h]
  rintro mL1 fy ⟨v9,f26,f27,f28,f29,f30,f31,f32,f33,f34,f35,f36,h⟩
  rcases mL1 with _ | mL1
  ·exact absurd h (by simp[pQ])
  simp only[pQ]at h
  refine sq ?_
  obtain⟨du,cq,h⟩:=bind_some h
  refine wJ (λs=>s.t 2=vP 2 1 0/\s.t 3=vP 3 1 0/\s.t 4=vP 4 1 0/\s.t 6=vP 6 1 0/\s.t 9=vI v9/\s.t 44=vB du/\s.h 2=(1,oX 112 (M.aI2.en p0))/\s.h 3=(1,oX 633 (M.mK.en p1))/\s.h 4=(1,Ey)/\s.h 6=(1,oB 112 [cS x1.Name,cI x1.aI0,.row 300012 1,.row 400012 1])/\s.h 300012=(1,oW 117 3 M.aD.en x1.aJF)/\s.h 400012=(1,oW 471 2 M.aN.en x1.aJO)/\True) ?_ ?_
  ·replace h:=cq;clear cq;rcases C1 (decide (v9<(List.length p0.aJF:Int)))with cr | cr;(replace h:=bY cr h;refine rd mixed ?_;cases h;refine iU ⟨?_,?_,?_,?_,?_,?_,?_,?_,?_,?_,?_,?_,trivial⟩<;>(try simp +decide only[F,reduceIte,Nat.reduceAdd,qB,qC,EN, *,-h]));replace h:=bZ cr h;obtain⟨fz,dx,h⟩:=bind_some h;obtain⟨g0,g7,g8⟩:=wM dx;refine rd mixed ?_;cases h;refine iU ⟨?_,?_,?_,?_,?_,?_,?_,?_,?_,?_,?_,?_,trivial⟩<;>(try simp +decide only[F,reduceIte,Nat.reduceAdd,qB,qC,EN, *,-h])
  clear cq
  rintro bt f40
  rcases mT du with ak | ak
  ·replace h:=bZ ak h;refine ct (sk (an (bk (rn ?_))));refine ab ?_;refine iU ⟨mL1,jB,IntKind.i64.wrap (v9+1),?_,?_,?_,?_,?_,?_,?_,?_,?_,?_,?_,h⟩;all_goals simp +decide only[F,reduceIte,Nat.reduceAdd,qB,qC,EN, *,-h]
  replace h:=bY ak h
  refine cf (xt (Gn (Gg (Lk (an (sq ?_))))))
  obtain⟨g9,bu,h⟩:=bind_some h
  obtain⟨ga,dy,h⟩:=bind_some h
  apply bJ
  ·simp +decide only[E,reduceIte,Nat.reduceAdd,Nat.reduceMul,qB,qC,<-List.map_take,<-List.map_drop,L,Rz,Mp,RN,M.aD.en,EN,ah,f40,ak]
   refine⟨by first | exact rU bu | exact(rU bu).2 | exact(rU bu).2.2,?_⟩
   try simp +decide only[E,reduceIte,Nat.reduceAdd,Nat.reduceMul,qB,qC,<-List.map_take,<-List.map_drop,L,Rz,Mp,RN,M.aD.en,EN,ah,f40,ak]
   refine⟨by(have hb:=gO dy);simp[M.aD.en,qE,aO,<-List.map_take,<-List.map_drop,-List.map_take,-List.map_drop]at hb ⊢ <;> omega,?_⟩
   try simp +decide only[E,reduceIte,Nat.reduceAdd,Nat.reduceMul,qB,qC,<-List.map_take,<-List.map_drop,L,Rz,Mp,RN,M.aD.en,EN,ah,f40,ak]
   exact Is.mk _
  refine an (sq ?_)
  refine cu (λs=>s.t 2=vP 2 1 0/\s.t 3=vP 3 1 0/\s.t 4=vP 4 1 0/\s.t 6=vP 6 1 0/\s.t 9=vI v9/\s.t 10=vR 100047 (((bt.h 100047).1+1)+1)/\s.h 2=(1,oX 112 (M.aI2.en p0))/\s.h 3=(1,oX 633 (M.mK.en p1))/\s.h 4=(1,Ey)/\s.h 6=(1,oB 112 [cS x1.Name,cI x1.aI0,.row 300012 1,.row 400012 1])/\s.h 100047=(((bt.h 100047).1+1)+1,oW 117 3 M.aD.en (List.take v9.toNat x1.aJF))/\s.h 300012=(1,.row 117 3 (Ls 3 0 v9.toNat (List.map M.aD.en x1.aJF)) true)/\s.h 400012=(1,oW 471 2 M.aN.en x1.aJO)/\True) ?_
  rintro gb f64
  obtain⟨gd,dz,h⟩:=bind_some h
  refine rn1 dz ?_
  refine an ?_
  refine cu (λs=>s.t 2=vP 2 1 0/\s.t 4=vP 4 1 0/\s.t 6=vP 6 1 0/\s.t 9=vI v9/\s.t 10=vR 100047 ((((bt.h 100047).1+1)+1)+1)/\s.h 2=(1,oX 112 (M.aI2.en p0))/\s.h 4=(1,Ey)/\s.h 6=(1,oB 112 [cS x1.Name,cI x1.aI0,.row 300012 1,.row 400012 1])/\s.h 100047=((((bt.h 100047).1+1)+1)+1,oW 117 3 M.aD.en ((List.take v9.toNat x1.aJF)++[(⟨p1.aD,([]:List M.aJN),0⟩:M.aD)]))/\s.h 300012=(1,.row 117 3 (Ls 3 0 v9.toNat (List.map M.aD.en x1.aJF)) true)/\s.h 400012=(1,oW 471 2 M.aN.en x1.aJO)/\True) ?_
  rintro gh f80
  obtain⟨gi,ef,h⟩:=bind_some h
  apply bJ
  ·simp +decide only[E,reduceIte,Nat.reduceAdd,Nat.reduceMul,qB,qC,<-List.map_take,<-List.map_drop,L,Rz,Mp,RN,M.aD.en,EN,ah,ak,f80]
   refine⟨by first | exact Qf (rU bu).1 | exact(Qf (rU bu).1).2 | exact(Qf (rU bu).1).2.2,?_⟩
   try simp +decide only[E,reduceIte,Nat.reduceAdd,Nat.reduceMul,qB,qC,<-List.map_take,<-List.map_drop,L,Rz,Mp,RN,M.aD.en,EN,ah,ak,f80]
   refine⟨by(have hb:=gO ef);simp[M.aD.en,qE,aO,<-List.map_take,<-List.map_drop,-List.map_take,-List.map_drop]at hb ⊢ <;> omega,?_⟩
   try simp +decide only[E,reduceIte,Nat.reduceAdd,Nat.reduceMul,qB,qC,<-List.map_take,<-List.map_drop,L,Rz,Mp,RN,M.aD.en,EN,ah,ak,f80]
   exact Is.mk _
  refine ab (an (sq ?_))
  refine cu (λs=>s.t 2=vP 2 1 0/\s.t 4=vP 4 1 0/\s.t 6=vP 6 1 0/\s.h 2=(1,oX 112 (M.aI2.en p0))/\s.h 4=(1,Ey)/\s.h 6=(1,oB 112 [cS x1.Name,cI x1.aI0,.row 100047 (((((bt.h 100047).1+1)+1)+1)+1),.row 400012 1])/\s.h 100047=(((((bt.h 100047).1+1)+1)+1)+1,oW 117 3 M.aD.en (((List.take v9.toNat x1.aJF)++[(⟨p1.aD,([]:List M.aJN),0⟩:M.aD)])++(List.drop v9.toNat x1.aJF)))/\s.h 400012=(1,oW 471 2 M.aN.en x1.aJO)/\True) ?_
  rintro dw f94
  obtain⟨bw,aq,h⟩:=bind_some h
  refine wJ (λs=>s.h 6=dw.h 6/\s.h 100047=dw.h 100047/\s.t 2=vP 2 1 0/\s.t 4=vP 4 1 0/\s.t 6=vP 6 1 0/\s.t 126=vB bw/\s.h 2=(1,oX 112 (M.aI2.en p0))/\s.h 4=(1,Ey)/\s.h 400012=(1,oW 471 2 M.aN.en x1.aJO)/\True) ?_ ?_
  ·replace h:=aq;clear aq;obtain⟨cw,bx,h⟩:=bind_some h;rcases mT (!cw)with ar | ar;(replace h:=bZ ar h;refine rn1 (Tl.1 _ _ bx) ?_;cases h;refine iU ⟨?_,?_,?_,?_,?_,?_,?_,?_,?_,trivial⟩<;>(try simp +decide only[F,reduceIte,Nat.reduceAdd,qB,qC,EN, *,-h]));replace h:=bY ar h;obtain⟨eg,cx,h⟩:=bind_some h;refine rn2 (Tl.1 _ _ bx) (Tl.1 _ _ cx) ?_;cases h;refine iU ⟨?_,?_,?_,?_,?_,?_,?_,?_,?_,trivial⟩<;>(try simp +decide only[F,reduceIte,Nat.reduceAdd,qB,qC,EN, *,-h])
  clear aq
  rintro eh ⟨f111,f112,f105⟩
  replace f111:=f111.trans f94.2.2.2.2.2.1
  replace f112:=f112.trans f94.2.2.2.2.2.2.1
  rcases C1 bw with av | av
  ·replace h:=bY av h;refine cf (sk (an (sq (rn ?_))));refine an (rt ?_);cases h;simp[Ret,TB,EN, *]
  replace h:=bZ av h
  refine ct (sq ?_)
  obtain⟨et,cy,h⟩:=bind_some h
  refine rn1 (ZV.1 _ _ cy) ?_
  refine an (rt ?_)
  cases h
  simp[Ret,TB,EN, *]
 replace h:=bY ah h
 refine cf ?_
 obtain⟨bz,aw,h⟩:=bind_some h
 refine wJ (λs=>s.t 2=vP 2 1 0/\s.t 3=vP 3 1 0/\s.t 4=vP 4 1 0/\s.t 6=vP 6 1 0/\s.t 7=vI x3/\s.t 8=vI x5/\s.t 66=vB bz/\s.h 2=(1,oX 112 (M.aI2.en p0))/\s.h 3=(1,oX 633 (M.mK.en p1))/\s.h 4=(1,Ey)/\s.h 6=(1,oB 112 [cS x1.Name,cI x1.aI0,.row 300012 1,.row 400012 1])/\s.h 300012=(1,oW 117 3 M.aD.en x1.aJF)/\s.h 400012=(1,oW 471 2 M.aN.en x1.aJO)/\True) ?_ ?_
 ·replace h:=aw;clear aw;rcases mT (p1.aJS==2)with ax | ax;(replace h:=bZ ax h;refine rn ?_;cases h;refine iU ⟨?_,?_,?_,?_,?_,?_,?_,?_,?_,?_,?_,?_,?_,trivial⟩<;>(try simp +decide only[F,reduceIte,Nat.reduceAdd,qB,qC,EN, *,-h]));replace h:=bY ax h;refine rn ?_;cases h;refine iU ⟨?_,?_,?_,?_,?_,?_,?_,?_,?_,?_,?_,?_,?_,trivial⟩<;>(try simp +decide only[F,reduceIte,Nat.reduceAdd,qB,qC,EN, *,-h])
 clear aw
 rintro al f125
 rcases mT bz with aa | aa
 ·replace h:=bZ aa h;refine ct ?_;obtain⟨ao,cz,h⟩:=bind_some h;refine rn1 (aIK _ _ _ cz) ?_;refine ab (an (sq ?_));obtain⟨c9,ay,h⟩:=bind_some h;refine wJ (λs=>s.t 2=vP 2 1 0/\s.t 4=vP 4 1 0/\s.t 6=vP 6 1 0/\s.t 126=vB c9/\s.h 2=(1,oX 112 (M.aI2.en p0))/\s.h 4=(1,Ey)/\s.h 6=(1,oB 112 [cS ao.Name,cI ao.aI0,.row 300077 ((al.h 300077).1+1),.row 400077 ((al.h 400077).1+1)])/\s.h 300077=((al.h 300077).1+1,oW 117 3 M.aD.en ao.aJF)/\s.h 400077=((al.h 400077).1+1,oW 471 2 M.aN.en ao.aJO)/\True) ?_ ?_;(replace h:=ay;clear ay;obtain⟨da,ca,h⟩:=bind_some h;rcases mT (!da)with az | az;(replace h:=bZ az h;refine rn1 (Tl.1 _ _ ca) ?_;cases h;refine iU ⟨?_,?_,?_,?_,?_,?_,?_,?_,?_,trivial⟩<;>(try simp +decide only[F,reduceIte,Nat.reduceAdd,qB,qC,EN, *,-h]));replace h:=bY az h;obtain⟨eu,db,h⟩:=bind_some h;refine rn2 (Tl.1 _ _ ca) (Tl.1 _ _ db) ?_;cases h;refine iU ⟨?_,?_,?_,?_,?_,?_,?_,?_,?_,trivial⟩<;>(try simp +decide only[F,reduceIte,Nat.reduceAdd,qB,qC,EN, *,-h]));clear ay;rintro fa f145;rcases C1 c9 with ba | ba;(replace h:=bY ba h;refine cf (sk (an (sq (rn ?_))));refine an (rt ?_);cases h;simp[Ret,TB,EN, *]);replace h:=bZ ba h;refine ct (sq ?_);obtain⟨fc,df,h⟩:=bind_some h;refine rn1 (ZV.1 _ _ df) ?_;refine an (rt ?_);cases h;simp[Ret,TB,EN, *]
 replace h:=bY aa h
 refine cf ?_
 obtain⟨cc,bd,h⟩:=bind_some h
 refine wJ (λs=>s.t 2=vP 2 1 0/\s.t 3=vP 3 1 0/\s.t 4=vP 4 1 0/\s.t 6=vP 6 1 0/\s.t 8=vI x5/\s.t 78=vB cc/\s.h 2=(1,oX 112 (M.aI2.en p0))/\s.h 3=(1,oX 633 (M.mK.en p1))/\s.h 4=(1,Ey)/\s.h 6=(1,oB 112 [cS x1.Name,cI x1.aI0,.row 300012 1,.row 400012 1])/\s.h 300012=(1,oW 117 3 M.aD.en x1.aJF)/\s.h 400012=(1,oW 471 2 M.aN.en x1.aJO)/\True) ?_ ?_
 ·replace h:=bd;clear bd;rcases C1 (p1.aJS==3)with bf | bf;(replace h:=bY bf h;refine rn ?_;cases h;refine iU ⟨?_,?_,?_,?_,?_,?_,?_,?_,?_,?_,?_,?_,trivial⟩<;>(try simp +decide only[F,reduceIte,Nat.reduceAdd,qB,qC,EN, *,-h]));replace h:=bZ bf h;rcases mT (decide (x3>=0))with bg | bg;(replace h:=bZ bg h;refine rn ?_;cases h;refine iU ⟨?_,?_,?_,?_,?_,?_,?_,?_,?_,?_,?_,?_,trivial⟩<;>(try simp +decide only[F,reduceIte,Nat.reduceAdd,qB,qC,EN, *,-h]));replace h:=bY bg h;refine rn ?_;cases h;refine iU ⟨?_,?_,?_,?_,?_,?_,?_,?_,?_,?_,?_,?_,trivial⟩<;>(try simp +decide only[F,reduceIte,Nat.reduceAdd,qB,qC,EN, *,-h])
 clear bd
 rintro fe f165
 rcases mT cc with ae | ae
 ·replace h:=bZ ae h;refine ct ?_;obtain⟨ff,dg,h⟩:=bind_some h;refine rn1 dg ?_;refine ab (an (sq ?_));refine cu (λs=>s.t 2=vP 2 1 0/\s.t 4=vP 4 1 0/\s.t 6=vP 6 1 0/\s.h 2=(1,oX 112 (M.aI2.en p0))/\s.h 4=(1,Ey)/\s.h 6=(1,oB 112 [cS x1.Name,cI x1.aI0,.row 300012 1,.row 400012 2])/\s.h 300012=(1,oW 117 3 M.aD.en x1.aJF)/\s.h 400012=(2,oW 471 2 M.aN.en (x1.aJO++[(⟨p1.aD,p1.Field⟩:M.aN)]))/\True) ?_;rintro dh f183;obtain⟨cd,bh,h⟩:=bind_some h;refine wJ (λs=>s.h 400012=dh.h 400012/\s.t 2=vP 2 1 0/\s.t 4=vP 4 1 0/\s.t 6=vP 6 1 0/\s.t 126=vB cd/\s.h 2=(1,oX 112 (M.aI2.en p0))/\s.h 4=(1,Ey)/\s.h 6=(1,oB 112 [cS x1.Name,cI x1.aI0,.row 300012 1,.row 400012 2])/\s.h 300012=(1,oW 117 3 M.aD.en x1.aJF)/\True) ?_ ?_;(replace h:=bh;clear bh;obtain⟨di,cg,h⟩:=bind_some h;rcases mT (!di)with bj | bj;(replace h:=bZ bj h;refine rn1 (Tl.1 _ _ cg) ?_;cases h;refine iU ⟨?_,?_,?_,?_,?_,?_,?_,?_,?_,trivial⟩<;>(try simp +decide only[F,reduceIte,Nat.reduceAdd,qB,qC,EN, *,-h]));replace h:=bY bj h;obtain⟨fg,dj,h⟩:=bind_some h;refine rn2 (Tl.1 _ _ cg) (Tl.1 _ _ dj) ?_;cases h;refine iU ⟨?_,?_,?_,?_,?_,?_,?_,?_,?_,trivial⟩<;>(try simp +decide only[F,reduceIte,Nat.reduceAdd,qB,qC,EN, *,-h]));clear bh;rintro fh ⟨f202,f194⟩;replace f202:=f202.trans f183.2.2.2.2.2.2.2.1;rcases C1 cd with bl | bl;(replace h:=bY bl h;refine cf (sk (an (sq (rn ?_))));refine an (rt ?_);cases h;simp[Ret,TB,EN, *]);replace h:=bZ bl h;refine ct (sq ?_);obtain⟨fj,dk,h⟩:=bind_some h;refine rn1 (ZV.1 _ _ dk) ?_;refine an (rt ?_);cases h;simp[Ret,TB,EN, *]
 replace h:=bY ae h
 refine cf ?_
 obtain⟨cj,bm,h⟩:=bind_some h
 refine wJ (λs=>s.t 2=vP 2 1 0/\s.t 4=vP 4 1 0/\s.t 6=vP 6 1 0/\s.t 8=vI x5/\s.t 100=vB cj/\s.h 2=(1,oX 112 (M.aI2.en p0))/\s.h 4=(1,Ey)/\s.h 6=(1,oB 112 [cS x1.Name,cI x1.aI0,.row 300012 1,.row 400012 1])/\s.h 300012=(1,oW 117 3 M.aD.en x1.aJF)/\s.h 400012=(1,oW 471 2 M.aN.en x1.aJO)/\True) ?_ ?_
 ·replace h:=bm;clear bm;rcases mT (p1.aJS==4)with bn | bn;(replace h:=bZ bn h;refine rn ?_;cases h;refine iU ⟨?_,?_,?_,?_,?_,?_,?_,?_,?_,?_,trivial⟩<;>(try simp +decide only[F,reduceIte,Nat.reduceAdd,qB,qC,EN, *,-h]));replace h:=bY bn h;refine rn ?_;cases h;refine iU ⟨?_,?_,?_,?_,?_,?_,?_,?_,?_,?_,trivial⟩<;>(try simp +decide only[F,reduceIte,Nat.reduceAdd,qB,qC,EN, *,-h])
 clear bm
 rintro fk f214
 rcases C1 cj with af | af
 ·replace h:=bY af h;refine cf (sq (rn ?_));refine an (rt ?_);cases h;simp[Ret,TB,EN, *]
 replace h:=bZ af h
 refine ct ?_
 obtain⟨fm,ai,h⟩:=bind_some h
 obtain⟨fo,aj,h⟩:=bind_some h
 obtain⟨fq,ck,h⟩:=bind_some h
 apply BH mixed
 ·simp +decide only[E,reduceIte,Nat.reduceAdd,Nat.reduceMul,qB,qC,<-List.map_take,<-List.map_drop,Nat.sub_zero,L,Vp,Mp,V1,M.aN.en,EN,ah,aa,ae,f214,af]
  refine⟨by first | exact rU ai | exact(rU ai).2 | exact(rU ai).2.2,?_⟩
  try simp +decide only[E,reduceIte,Nat.reduceAdd,Nat.reduceMul,qB,qC,<-List.map_take,<-List.map_drop,Nat.sub_zero,L,Vp,Mp,V1,M.aN.en,EN,ah,aa,ae,f214,af]
  refine⟨by first | exact Ex aj | exact(Ex aj).2 | exact(Ex aj).2.2,?_⟩
  try simp +decide only[E,reduceIte,Nat.reduceAdd,Nat.reduceMul,qB,qC,<-List.map_take,<-List.map_drop,Nat.sub_zero,L,Vp,Mp,V1,M.aN.en,EN,ah,aa,ae,f214,af]
  refine⟨by first | exact Fx (f:=M.aN.en) (sz:=2) (λ_=>rfl) jE ai aj ck | (have hb:=Fx (f:=M.aN.en) (sz:=2) (λ_=>rfl) jE ai aj ck;simpa using hb),?_⟩
  try simp +decide only[E,reduceIte,Nat.reduceAdd,Nat.reduceMul,qB,qC,<-List.map_take,<-List.map_drop,Nat.sub_zero,L,Vp,Mp,V1,M.aN.en,EN,ah,aa,ae,f214,af]
  exact⟨.mk jF,Is.mk _⟩
 refine ab (an (sq ?_))
 refine cu (λs=>s.t 2=vP 2 1 0/\s.t 4=vP 4 1 0/\s.t 6=vP 6 1 0/\s.h 2=(1,oX 112 (M.aI2.en p0))/\s.h 4=(1,Ey)/\s.h 6=(1,oB 112 [cS x1.Name,cI x1.aI0,.row 300012 1,.row 400012 2])/\s.h 300012=(1,oW 117 3 M.aD.en x1.aJF)/\s.h 400012=(2,oW 471 2 M.aN.en ((List.take x5.toNat x1.aJO)++(List.drop (IntKind.i64.wrap (x5+1)).toNat x1.aJO)))/\True) ?_
 rintro dm f233
 obtain⟨cl,bo,h⟩:=bind_some h
 refine wJ (λs=>s.h 400012=dm.h 400012/\s.t 2=vP 2 1 0/\s.t 4=vP 4 1 0/\s.t 6=vP 6 1 0/\s.t 126=vB cl/\s.h 2=(1,oX 112 (M.aI2.en p0))/\s.h 4=(1,Ey)/\s.h 6=(1,oB 112 [cS x1.Name,cI x1.aI0,.row 300012 1,.row 400012 2])/\s.h 300012=(1,oW 117 3 M.aD.en x1.aJF)/\True) ?_ ?_
 ·replace h:=bo;clear bo;obtain⟨dn,cn,h⟩:=bind_some h;rcases mT (!dn)with bq | bq;(replace h:=bZ bq h;refine rn1 (Tl.1 _ _ cn) ?_;cases h;refine iU ⟨?_,?_,?_,?_,?_,?_,?_,?_,?_,trivial⟩<;>(try simp +decide only[F,reduceIte,Nat.reduceAdd,qB,qC,EN, *,-h]));replace h:=bY bq h;obtain⟨ft,dq,h⟩:=bind_some h;refine rn2 (Tl.1 _ _ cn) (Tl.1 _ _ dq) ?_;cases h;refine iU ⟨?_,?_,?_,?_,?_,?_,?_,?_,?_,trivial⟩<;>(try simp +decide only[F,reduceIte,Nat.reduceAdd,qB,qC,EN, *,-h])
 clear bo
 rintro fw ⟨f252,f244⟩
 replace f252:=f252.trans f233.2.2.2.2.2.2.2.1
 rcases C1 cl with br | br
 ·replace h:=bY br h;refine cf (sk (an (sq (rn ?_))));refine an (rt ?_);cases h;simp[Ret,TB,EN, *]
 replace h:=bZ br h
 refine ct (sq ?_)
 obtain⟨fx,dr,h⟩:=bind_some h
 refine rn1 (ZV.1 _ _ dr) ?_
 refine an (rt ?_)
 cases h
 simp[Ret,TB,EN, *]⟩
instance:bE 625 (∀p0 r (h:CO p0=some r),Sc 625 [(false,[.ptr [.sl (List.map enB p0.b),.int .i64 p0.i,.int .i64 p0.h]])] [(false,[.edit (.lend 304 [.int .i64 r.1,.int .i64 r.2.1])]),(true,M.aI2.rs r.2.2)]):=⟨λp0 r h=>by
 unfold CO at h
 simp only[EN]
 refine sgB 34 [.cell 2 112] Tryz.func625 λbase wd B0 u0 hw0=> ?_
 refine dR (J:=λs=>s.t 0=vP 7059000 1 0/\s.h 7059000=(1,oB 304 [.old B0 (.sl (List.map enB p0.b)) (some u0),cI p0.i,cI p0.h])/\True) ?_ ?_
 ·and_intros<;>(try simp only[LN,List.map_cons,List.map_nil])<;>rfl
 rintro s1 f2
 exact sgX⟩
instance:bE 473 (∀p0 r (h:xB p0=some r),Sc 473 [(false,[.ptr [.sl (List.map enB p0.b),.int .i64 p0.i,.int .i64 p0.h]])] [(false,[.edit (.lend 304 [.int .i64 r.1,.int .i64 r.2.1])]),(true,M.aJC.rs r.2.2)]):=⟨λp0 r h=>by
 unfold xB at h
 simp only[EN]
 refine sgB 36 [.cell 2 205] Tryz.func473 λbase wd B0 u0 hw0=> ?_
 refine dR (J:=λs=>s.t 0=vP 7059000 1 0/\s.h 7059000=(1,oB 304 [.old B0 (.sl (List.map enB p0.b)) (some u0),cI p0.i,cI p0.h])/\True) ?_ ?_
 ·and_intros<;>(try simp only[LN,List.map_cons,List.map_nil])<;>rfl
 rintro s1 f2
 have i1:=E5 [.b 3 1 7050000 260 4,.b 3 3 7050001 325 2,.b 3 4 7050002 328 7] λm s=>∃v4:Int,∃ao:ByteArray,∃aq:Int,∃aa:Int,∃ae:Int,∃af:List M.aJN,∃ah:List M.aP,∃ai:List M.bC,∃aj:Nat,∃ak:Nat,∃al:Nat,(s.t 0=vP 7059000 1 0/\s.t 2=vP 2 ((s1.h 2).1+1) 0/\s.t 3=vP 3 ((s1.h 3).1+1) 0/\s.t 4=vI v4/\s.h 2=((s1.h 2).1+1,Yq)/\s.h 3=((s1.h 3).1+1,oB 205 [cS ao,.row 7050000 aj,cI aq,.row 7050001 ak,.row 7050002 al])/\s.h 7050000=(aj,oW 260 4 M.aJN.en af)/\s.h 7050001=(ak,oW 325 2 M.aP.en ah)/\s.h 7050002=(al,oW 328 7 M.bC.en ai)/\s.h 7059000=(1,oB 304 [.old B0 (.sl (List.map enB p0.b)) (some u0),cI aa,cI ae]))/\mX p0 m v4 ao aq aa ae af ah ai=some r
 have e1:=@mX.eq_2
 exact sgX⟩
instance:bE 628 (∀p0 p1 p2 p3 r (h:Be p0 p1 p2 p3=some r),Sc 628 [aX (M.aJR.en p0),aX (M.aJC.en p1),aI p2,aI p3] [(true,M.aJR.rs r.1),(true,M.aJC.rs r.2.1),rI r.2.2]):=⟨λp0 p1 p2 p3 r h=>by unfold Be at h;exact sgo 113 [.cell 8 122,.cell 9 205,.tmp 10] Tryz.func628⟩
instance:bE 629 (∀p0 p1 r (h:yG p0 p1=some r),Sc 629 [aX (M.aG.en p0),aX (M.aJC.en p1)] [(true,M.aG.rs r.1),rI r.2]):=⟨λp0 p1 r h=>by unfold yG at h;exact sgo 64 [.cell 4 124,.tmp 5] Tryz.func629⟩
instance:bE 474 (∀p0 r (h:Cn p0=some r),Sc 474 [(false,[.ptr [.sl (List.map enB p0.b),.int .i64 p0.i,.int .i64 p0.h]])] [(false,[.edit (.lend 304 [.int .i64 r.1,.int .i64 r.2.1])]),(true,M.aD.rs r.2.2)]):=⟨λp0 r h=>by
 unfold Cn at h
 simp only[EN]
 refine sgB 50 [.cell 2 117] Tryz.func474 λbase wd B0 u0 hw0=> ?_
 refine dR (J:=λs=>s.t 0=vP 7059000 1 0/\s.h 7059000=(1,oB 304 [.old B0 (.sl (List.map enB p0.b)) (some u0),cI p0.i,cI p0.h])/\True) ?_ ?_
 ·and_intros<;>(try simp only[LN,List.map_cons,List.map_nil])<;>rfl
 rintro s1 f2
 have i1:=λ(ai:(Int×Int×Int)) (s16:St)=>E5 [.b 3 1 7050000 260 4] λm s=>∃af:ByteArray,∃ah:Int,∃aa:List M.aJN,∃ae:Nat,(s.h 7059000=s16.h 7059000/\s.t 0=vP 7059000 1 0/\s.t 2=vP 2 ((s1.h 2).1+1) 0/\s.t 3=vP 3 ((s1.h 3).1+1) 0/\s.h 2=((s1.h 2).1+1,oB 117 [cS (⟨#[]⟩:ByteArray),.nil,cI 0])/\s.h 3=((s1.h 3).1+1,oB 117 [cS af,.row 7050000 ae,cI ah])/\s.h 7050000=(ae,oW 260 4 M.aJN.en aa))/\zX ai m af ah aa=some r
 have e1:=@zX.eq_2
 exact sgX⟩
theorem aIW(p0 r)(h:Bt p0=some r):Sc 377 [(false,[.ptr [.sl (List.map enB p0.b),.int .i64 p0.i,.int .i64 p0.h]])] [(false,[.edit (.lend 304 [.int .i64 r.1,.int .i64 r.2.1])]),(true,M.bG.rs r.2.2)]:=by
 unfold Bt at h
 simp only[EN]
 refine sgB 51 [.cell 2 67] Tryz.func377 λbase wd I u0 hw0=> ?_
 refine dR (J:=λs=>s.t 0=vP 7059000 1 0/\s.h 7059000=(1,oB 304 [.old I (.sl (List.map enB p0.b)) (some u0),cI p0.i,cI p0.h])/\True) ?_ ?_
 ·and_intros<;>(try simp only[LN,List.map_cons,List.map_nil])<;>rfl
 rintro s1 f2
 have i1:=λ(x4:(Int×Int×M.bG)) (U:(Int×Int×Int)) (ae:St)=>inv λm s=>∃j:List M.aV,∃C:Nat,(s.h 7059000=ae.h 7059000/\s.t 0=vP 7059000 1 0/\s.t 2=vP 2 ((s1.h 2).1+1) 0/\s.t 3=vP 3 ((s1.h 3).1+1) 0/\s.h 2=((s1.h 2).1+1,YW)/\s.h 3=((s1.h 3).1+1,oB 67 [cI x4.2.2.Id,cS x4.2.2.aI7,cS x4.2.2.Top,cI x4.2.2.aI0,.row 500005 C,.row 600005 ((s1.h 600005).1+1),cI x4.2.2.aJH.Pc,.row 800005 ((s1.h 800005).1+1),cI x4.2.2.aJH.aJp,cB x4.2.2.aJH.aJy,cB x4.2.2.aJH.aJ0])/\s.h 500005=(C,oW 81 2 M.aV.en j)/\s.h 600005=((s1.h 600005).1+1,oW 308 4 M.Instr.en x4.2.2.aJH.aJj)/\s.h 800005=((s1.h 800005).1+1,oW 3 1 enI x4.2.2.aJH.aJt))/\wW x4 U m j=some r
 have e1:=@wW.eq_2
 exact sgX
theorem aIR(p0 r)(h:BC p0=some r):Sc 378 [(false,[.ptr [.sl (List.map enB p0.b),.int .i64 p0.i,.int .i64 p0.h]])] [(false,[.edit (.lend 304 [.int .i64 r.1,.int .i64 r.2.1])]),(true,M.aJC.rs r.2.2)]:=by
 unfold BC at h
 simp only[EN]
 refine sgB 52 [.cell 2 205] Tryz.func378 λbase wd U u0 hw0=> ?_
 refine dR (J:=λs=>s.t 0=vP 7059000 1 0/\s.h 7059000=(1,oB 304 [.old U (.sl (List.map enB p0.b)) (some u0),cI p0.i,cI p0.h])/\True) ?_ ?_
 ·and_intros<;>(try simp only[LN,List.map_cons,List.map_nil])<;>rfl
 rintro s1 f2
 have i1:=λ(x4:(Int×Int×M.aJC)) (af:(Int×Int×Int)) (ah:St)=>E5 [.b 3 3 7050000 325 2] λm s=>∃I:Int,∃j:List M.aP,∃C:Nat,(s.h 7059000=ah.h 7059000/\s.t 0=vP 7059000 1 0/\s.t 2=vP 2 ((s1.h 2).1+1) 0/\s.t 3=vP 3 ((s1.h 3).1+1) 0/\s.t 4=vI I/\s.h 2=((s1.h 2).1+1,Yq)/\s.h 3=((s1.h 3).1+1,oB 205 [cS x4.2.2.aD.Name,.row 200006 ((s1.h 200006).1+1),cI x4.2.2.aD.aJa,.row 7050000 C,.row 500006 ((s1.h 500006).1+1)])/\s.h 200006=((s1.h 200006).1+1,oW 260 4 M.aJN.en x4.2.2.aD.aI6)/\s.h 500006=((s1.h 500006).1+1,oW 328 7 M.bC.en x4.2.2.aJU)/\s.h 7050000=(C,oW 325 2 M.aP.en j))/\xL x4 af m I j=some r
 have e1:=@xL.eq_2
 exact sgX
