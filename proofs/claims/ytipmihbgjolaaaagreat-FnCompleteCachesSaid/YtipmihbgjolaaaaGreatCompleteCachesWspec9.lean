/-
  Helper text. No conditions.
-/
import Derived.Test.YtipmihbgjolaaaaGreatCompleteCachesTi
import Derived.Test.YtipmihbgjolaaaaGreatCompleteCachesWspec0
import Derived.Test.YtipmihbgjolaaaaGreatCompleteCachesWspec1
import Derived.Test.YtipmihbgjolaaaaGreatCompleteCachesWspec2
import Derived.Test.YtipmihbgjolaaaaGreatCompleteCachesWspec3
import Derived.Test.YtipmihbgjolaaaaGreatCompleteCachesWspec4
import Derived.Test.YtipmihbgjolaaaaGreatCompleteCachesWspec5
import Derived.Test.YtipmihbgjolaaaaGreatCompleteCachesWspec6
import Derived.Test.YtipmihbgjolaaaaGreatCompleteCachesWspec7
import Derived.Test.YtipmihbgjolaaaaGreatCompleteCachesWspec8
set_option linter.unusedVariables false
set_option linter.unusedSimpArgs false
namespace Go.Proofs.YtipmihbgjolaaaaGreat.gen
open Go Go.Sh
set_option maxRecDepth 20000
set_option maxHeartbeats 4000000
theorem aFa (p0 p1 p2 p3 r) (h:oV p0 p1 p2 p3=some r):Sc 187 [aX (M.aC.en p0),aX (M.aGl.en p1),aI p2,aB p3] [(true,M.aC.rs r.1),rB r.2]:=by
 have i1:=D5 [.b 10 0 7050000 193 2] λm s=>∃af:Int,∃aa:List M.aGo,∃ae:Nat,(s.t 2=vI p2/\s.t 4=vP 4 1 0/\s.t 5=vP 5 1 0/\s.t 8=vP 8 1 0/\s.t 10=vP 10 1 0/\s.t 12=vI af/\s.h 4=(1,oX 31 (M.aC.en p0))/\s.h 5=(1,oX 85 (M.aGl.en p1))/\s.h 8=(1,oB 31 [.nil])/\s.h 10=(1,oB 31 [.row 7050000 ae])/\s.h 7050000=(ae,oW 193 2 M.aGo.en aa))/\jX p0 p1 p2 m af aa=some r
 have e1:=@jX.eq_2
 unfold oV at h
 exact sgo 69 [.cell 8 31,.tmp 9] Tryz.func187
instance:bF 187 (type_of% @aFa):=⟨@aFa⟩
theorem c38 (p0 p1 p2 p3 p4 r) (h:hJ p0 p1 p2 p3 p4=some r):Sc 38 [aX (M.aC.en p0),aX (M.aGl.en p1),aI p2,aS p3,aB p4] [(true,M.aGm.rs r)]:=by unfold hJ at h;exact sgo 30 [.cell 10 105] Tryz.func38
instance:bF 38 (type_of% @c38):=⟨@c38⟩
theorem aA6 (p0 r) (h:bP p0=some r):Sc 102 [aX (M.World.en p0)] [(true,M.World.rs r)]:=by
 have i1:=λ(x1:M.aA)=>inv λm s=>∃v4:Int,∃ae:List M.bJ,∃af:Nat,(s.t 1=vP 1 1 0/\s.t 2=vP 2 1 0/\s.t 3=vP 3 1 0/\s.t 4=vI v4/\s.h 1=(1,oX 75 (M.World.en p0))/\s.h 2=(1,Qh)/\s.h 3=(1,oB 75 [cI p0.Now,cB p0.aHA,cI p0.aGp,.row 100010 1,.row 100012 af,cI p0.aGv,cL M.nW.en p0.aGy.aGy,cL M.Bk.en p0.aGt.aHN,cL M.aGl.en p0.aG2,cL M.aGr.en p0.aGz])/\s.h 100010=(1,oW 49 24 M.aG.en x1.aGj)/\s.h 100012=(af,oW 96 11 M.bJ.en ae))/\mB p0 x1 m v4 ae=some r
 have e1:=@mB.eq_2
 have i2:=λ(x1:M.aA) (ae:List M.bJ) (ah:M.aR) (ai:M.aGt) (aa:St) (af:Nat)=>inv λm s=>∃v5:Int,∃aj:List M.aGl,∃ak:Nat,(s.t 1=vP 1 1 0/\s.t 2=vP 2 1 0/\s.t 3=vP 3 1 0/\s.t 5=vI v5/\s.h 1=(1,oX 75 (M.World.en p0))/\s.h 2=(1,Qh)/\s.h 3=(1,oB 75 [cI p0.Now,cB p0.aHA,cI p0.aGp,.row 100010 1,.row 100012 af,cI p0.aGv,.row 100034 ((aa.h 100034).1+1),.row 100038 ((aa.h 100038).1+1),.row 100040 ak,cL M.aGr.en p0.aGz])/\s.h 100010=(1,oW 49 24 M.aG.en x1.aGj)/\s.h 100012=(af,oW 96 11 M.bJ.en ae)/\s.h 100034=(((aa.h 100034).1+1),oW 154 4 M.nW.en ah.aGy)/\s.h 100038=(((aa.h 100038).1+1),oW 157 3 M.Bk.en ai.aHN)/\s.h 100040=(ak,oW 85 4 M.aGl.en aj))/\jC p0 x1 ae ah ai m v5 aj=some r
 have e2:=@jC.eq_2
 have i3:=λ(x1:M.aA) (ae:List M.bJ) (ah:M.aR) (ai:M.aGt) (aj:List M.aGl) (aa:St) (af:Nat) (ak:Nat)=>inv λm s=>∃v6:Int,∃al:List M.aGr,∃ao:Nat,(s.t 1=vP 1 1 0/\s.t 2=vP 2 1 0/\s.t 3=vP 3 1 0/\s.t 6=vI v6/\s.h 1=(1,oX 75 (M.World.en p0))/\s.h 2=(1,Qh)/\s.h 3=(1,oB 75 [cI p0.Now,cB p0.aHA,cI p0.aGp,.row 100010 1,.row 100012 af,cI p0.aGv,.row 100034 ((aa.h 100034).1+1),.row 100038 ((aa.h 100038).1+1),.row 100040 ak,.row 100060 ao])/\s.h 100010=(1,oW 49 24 M.aG.en x1.aGj)/\s.h 100012=(af,oW 96 11 M.bJ.en ae)/\s.h 100034=(((aa.h 100034).1+1),oW 154 4 M.nW.en ah.aGy)/\s.h 100038=(((aa.h 100038).1+1),oW 157 3 M.Bk.en ai.aHN)/\s.h 100040=(ak,oW 85 4 M.aGl.en aj)/\s.h 100060=(ao,oW 137 5 M.aGr.en al))/\iZ p0 x1 ae ah ai aj m v6 al=some r
 have e3:=@iZ.eq_2
 unfold bP at h
 exact sgo 81 [.cell 2 75] Tryz.func102
instance:bF 102 (type_of% @aA6):=⟨@aA6⟩
theorem aEK (p0 r) (h:Ba p0=some r):Sc 238 [aX (M.aG.en p0)] [rI r]:=by unfold Ba at h;exact sgo 23 [.tmp 2] Tryz.func238
instance:bF 238 (type_of% @aEK):=⟨@aEK⟩
theorem aCW (p0 p1 r) (h:Bm p0 p1=some r):Sc 343 [aX (M.aGh.en p0),aX (M.Op.en p1)] [(true,M.aGh.rs r.1),rI r.2.1,rB r.2.2]:=by unfold Bm at h;exact sgo 58 [.cell 4 35,.tmp 5,.tmp 6] Tryz.func343
instance:bF 343 (type_of% @aCW):=⟨@aCW⟩
theorem aB6 (p0 r) (h:AE p0=some r):Sc 284 [aX (M.aH.en p0)] [(true,M.aD.rs r)]:=by unfold AE at h;exact sgo 10 [.cell 2 40] Tryz.func284
instance:bF 284 (type_of% @aB6):=⟨@aB6⟩
theorem aCP (p0 p1 r) (h:lP p0 p1=some r):Sc 351 [aX (M.aGh.en p0),aX (M.lD.en p1)] [(true,M.aGh.rs r.1),rB r.2]:=by
 unfold lP at h
 simp only [EN]
 refine sgn 130 [.cell 4 35,.tmp 5] Tryz.func351 λbase wd => ?_
 refine sq (rn ?_)
 refine an (sq ?_)
 obtain ⟨x1,h2,h⟩:=bind_some h
 refine rn1 (XW _ _ h2) ?_
 refine an (sq ?_)
 obtain ⟨x3,h4,h⟩:=bind_some h
 refine rn1 (aBX _ _ _ h4) ?_
 refine an (sq ?_)
 obtain ⟨x5,h6,h⟩:=bind_some h
 refine rn1 (aF3 _ _ _ h6) ?_
 refine an (sq (bk ?_))
 obtain ⟨x7,h8,h⟩:=bind_some h
 refine wT (λs=>s.t 2=vP 2 1 0/\s.t 3=vP 3 1 0/\s.t 4=vP 4 1 0/\s.t 6=vP 6 1 0/\s.t 7=vI x3/\s.t 8=vI x5/\s.t 21=vB x7/\s.h 2=(1,oX 35 (M.aGh.en p0))/\s.h 3=(1,oX 380 (M.lD.en p1))/\s.h 4=(1,LF)/\s.h 6=(1,oB 35 [cS x1.Name,cI x1.aGg,.row 300012 1,.row 400012 1])/\s.h 300012=(1,oW 40 3 M.aD.en x1.aGq)/\s.h 400012=(1,oW 282 2 M.aO.en x1.aG3)/\True) ?_ ?_
 ·replace h:=h8;clear h8;rcases oQ (p1.aG7==1) with cp | cp;(replace h:=cT cp h;refine rn ?_;cases h;refine lJ ⟨?_,?_,?_,?_,?_,?_,?_,?_,?_,?_,?_,?_,?_,trivial⟩<;>(try simp +decide only [F,reduceIte,Nat.reduceAdd,qB,qC,EN, *,-h]));replace h:=cR cp h;refine rn ?_;cases h;refine lJ ⟨?_,?_,?_,?_,?_,?_,?_,?_,?_,?_,?_,?_,?_,trivial⟩<;>(try simp +decide only [F,reduceIte,Nat.reduceAdd,qB,qC,EN, *,-h])
 clear h8
 rintro s9 f10
 rcases oQ x7 with ah | ah
 ·replace h:=cT ah h
  refine ct (sq (rn ?_))
  refine an (sq (bk ?_))
  refine IB (λm s=>∃v9:Int,s.t 2=vP 2 1 0/\s.t 3=vP 3 1 0/\s.t 4=vP 4 1 0/\s.t 6=vP 6 1 0/\s.t 9=vI v9/\s.h 2=(1,oX 35 (M.aGh.en p0))/\s.h 3=(1,oX 380 (M.lD.en p1))/\s.h 4=(1,LF)/\s.h 6=(1,oB 35 [cS x1.Name,cI x1.aGg,.row 300012 1,.row 400012 1])/\s.h 300012=(1,oW 40 3 M.aD.en x1.aGq)/\s.h 400012=(1,oW 282 2 M.aO.en x1.aG3)/\nZ p0 p1 x1 m v9=some r) fuel ?_ ?_
  ·refine ⟨0,?_,?_,?_,?_,?_,?_,?_,?_,?_,?_,?_,h⟩;all_goals simp +decide only [F,reduceIte,Nat.reduceAdd,qB,qC,EN, *,-h]
  rintro mL1 fz ⟨v9,f26,f27,f28,f29,f30,f31,f32,f33,f34,f35,f36,h⟩
  rcases mL1 with _ | mL1
  ·exact absurd h (by simp [nZ])
  simp only [nZ] at h
  refine sq ?_
  obtain ⟨du,cq,h⟩:=bind_some h
  refine wT (λs=>s.t 2=vP 2 1 0/\s.t 3=vP 3 1 0/\s.t 4=vP 4 1 0/\s.t 6=vP 6 1 0/\s.t 9=vI v9/\s.t 44=vB du/\s.h 2=(1,oX 35 (M.aGh.en p0))/\s.h 3=(1,oX 380 (M.lD.en p1))/\s.h 4=(1,LF)/\s.h 6=(1,oB 35 [cS x1.Name,cI x1.aGg,.row 300012 1,.row 400012 1])/\s.h 300012=(1,oW 40 3 M.aD.en x1.aGq)/\s.h 400012=(1,oW 282 2 M.aO.en x1.aG3)/\True) ?_ ?_
  ·replace h:=cq;clear cq;rcases CH (decide (v9<(List.length p0.aGq:Int))) with cr | cr;(replace h:=cR cr h;refine rd mixed ?_;cases h;refine lJ ⟨?_,?_,?_,?_,?_,?_,?_,?_,?_,?_,?_,?_,trivial⟩<;>(try simp +decide only [F,reduceIte,Nat.reduceAdd,qB,qC,EN, *,-h]));replace h:=cT cr h;obtain ⟨g0,dx,h⟩:=bind_some h;obtain ⟨g7,g8,g9⟩:=Az dx;refine rd mixed ?_;cases h;refine lJ ⟨?_,?_,?_,?_,?_,?_,?_,?_,?_,?_,?_,?_,trivial⟩<;>(try simp +decide only [F,reduceIte,Nat.reduceAdd,qB,qC,EN, *,-h])
  clear cq
  rintro bt f40
  rcases oQ du with ak | ak
  ·replace h:=cT ak h;refine ct (sk (an (bk (rn ?_))));refine ab ?_;refine lJ ⟨mL1,qb,(IntKind.i64.wrap (v9+1)),?_,?_,?_,?_,?_,?_,?_,?_,?_,?_,?_,h⟩;all_goals simp +decide only [F,reduceIte,Nat.reduceAdd,qB,qC,EN, *,-h]
  replace h:=cR ak h
  refine cf (xt (E2 (EV (J0 (an (sq ?_))))))
  obtain ⟨ga,bu,h⟩:=bind_some h
  obtain ⟨gb,dy,h⟩:=bind_some h
  apply bY
  ·simp +decide only [E,reduceIte,Nat.reduceAdd,Nat.reduceMul,qB,qC,<-List.map_take,<-List.map_drop,L,Y2,Un,YY,M.aD.en,EN,ah,f40,ak]
   refine ⟨by first | exact pD bu | exact (pD bu).2 | exact (pD bu).2.2,?_⟩
   try simp +decide only [E,reduceIte,Nat.reduceAdd,Nat.reduceMul,qB,qC,<-List.map_take,<-List.map_drop,L,Y2,Un,YY,M.aD.en,EN,ah,f40,ak]
   refine ⟨by (have hb:=gL dy);simp [M.aD.en,qE,aQ,<-List.map_take,<-List.map_drop,-List.map_take,-List.map_drop] at hb ⊢ <;> omega,?_⟩
   try simp +decide only [E,reduceIte,Nat.reduceAdd,Nat.reduceMul,qB,qC,<-List.map_take,<-List.map_drop,L,Y2,Un,YY,M.aD.en,EN,ah,f40,ak]
   exact Is.mk _
  refine an (sq ?_)
  refine cu (λs=>s.t 2=vP 2 1 0/\s.t 3=vP 3 1 0/\s.t 4=vP 4 1 0/\s.t 6=vP 6 1 0/\s.t 9=vI v9/\s.t 10=vR 100047 (((bt.h 100047).1+1)+1)/\s.h 2=(1,oX 35 (M.aGh.en p0))/\s.h 3=(1,oX 380 (M.lD.en p1))/\s.h 4=(1,LF)/\s.h 6=(1,oB 35 [cS x1.Name,cI x1.aGg,.row 300012 1,.row 400012 1])/\s.h 100047=((((bt.h 100047).1+1)+1),oW 40 3 M.aD.en (List.take v9.toNat x1.aGq))/\s.h 300012=(1,.row 40 3 (J8 3 0 v9.toNat (List.map M.aD.en x1.aGq)) true)/\s.h 400012=(1,oW 282 2 M.aO.en x1.aG3)/\True) ?_
  rintro gd f64
  obtain ⟨gh,dz,h⟩:=bind_some h
  refine rn1 dz ?_
  refine an ?_
  refine cu (λs=>s.t 2=vP 2 1 0/\s.t 4=vP 4 1 0/\s.t 6=vP 6 1 0/\s.t 9=vI v9/\s.t 10=vR 100047 ((((bt.h 100047).1+1)+1)+1)/\s.h 2=(1,oX 35 (M.aGh.en p0))/\s.h 4=(1,LF)/\s.h 6=(1,oB 35 [cS x1.Name,cI x1.aGg,.row 300012 1,.row 400012 1])/\s.h 100047=(((((bt.h 100047).1+1)+1)+1),oW 40 3 M.aD.en ((List.take v9.toNat x1.aGq)++[(⟨p1.aD,([]:List M.aG1),0⟩:M.aD)]))/\s.h 300012=(1,.row 40 3 (J8 3 0 v9.toNat (List.map M.aD.en x1.aGq)) true)/\s.h 400012=(1,oW 282 2 M.aO.en x1.aG3)/\True) ?_
  rintro gi f80
  obtain ⟨gj,ef,h⟩:=bind_some h
  apply bY
  ·simp +decide only [E,reduceIte,Nat.reduceAdd,Nat.reduceMul,qB,qC,<-List.map_take,<-List.map_drop,L,Y2,Un,YY,M.aD.en,EN,ah,ak,f80]
   refine ⟨by first | exact OH (pD bu).1 | exact (OH (pD bu).1).2 | exact (OH (pD bu).1).2.2,?_⟩
   try simp +decide only [E,reduceIte,Nat.reduceAdd,Nat.reduceMul,qB,qC,<-List.map_take,<-List.map_drop,L,Y2,Un,YY,M.aD.en,EN,ah,ak,f80]
   refine ⟨by (have hb:=gL ef);simp [M.aD.en,qE,aQ,<-List.map_take,<-List.map_drop,-List.map_take,-List.map_drop] at hb ⊢ <;> omega,?_⟩
   try simp +decide only [E,reduceIte,Nat.reduceAdd,Nat.reduceMul,qB,qC,<-List.map_take,<-List.map_drop,L,Y2,Un,YY,M.aD.en,EN,ah,ak,f80]
   exact Is.mk _
  refine ab (an (sq ?_))
  refine cu (λs=>s.t 2=vP 2 1 0/\s.t 4=vP 4 1 0/\s.t 6=vP 6 1 0/\s.h 2=(1,oX 35 (M.aGh.en p0))/\s.h 4=(1,LF)/\s.h 6=(1,oB 35 [cS x1.Name,cI x1.aGg,.row 100047 (((((bt.h 100047).1+1)+1)+1)+1),.row 400012 1])/\s.h 100047=((((((bt.h 100047).1+1)+1)+1)+1),oW 40 3 M.aD.en (((List.take v9.toNat x1.aGq)++[(⟨p1.aD,([]:List M.aG1),0⟩:M.aD)])++(List.drop v9.toNat x1.aGq)))/\s.h 400012=(1,oW 282 2 M.aO.en x1.aG3)/\True) ?_
  rintro dw f94
  obtain ⟨bw,aq,h⟩:=bind_some h
  refine wT (λs=>s.h 6=dw.h 6/\s.h 100047=dw.h 100047/\s.t 2=vP 2 1 0/\s.t 4=vP 4 1 0/\s.t 6=vP 6 1 0/\s.t 126=vB bw/\s.h 2=(1,oX 35 (M.aGh.en p0))/\s.h 4=(1,LF)/\s.h 400012=(1,oW 282 2 M.aO.en x1.aG3)/\True) ?_ ?_
  ·replace h:=aq;clear aq;obtain ⟨cw,bx,h⟩:=bind_some h;rcases oQ (!cw) with ar | ar;(replace h:=cT ar h;refine rn1 (Rj _ _ bx) ?_;cases h;refine lJ ⟨?_,?_,?_,?_,?_,?_,?_,?_,?_,trivial⟩<;>(try simp +decide only [F,reduceIte,Nat.reduceAdd,qB,qC,EN, *,-h]));replace h:=cR ar h;obtain ⟨eh,cx,h⟩:=bind_some h;refine rn2 (Rj _ _ bx) (Rj _ _ cx) ?_;cases h;refine lJ ⟨?_,?_,?_,?_,?_,?_,?_,?_,?_,trivial⟩<;>(try simp +decide only [F,reduceIte,Nat.reduceAdd,qB,qC,EN, *,-h])
  clear aq
  rintro et ⟨f111,f112,f105⟩
  replace f111:=f111.trans f94.2.2.2.2.2.1
  replace f112:=f112.trans f94.2.2.2.2.2.2.1
  rcases CH bw with av | av
  ·replace h:=cR av h;refine cf (sk (an (sq (rn ?_))));refine an (rt ?_);cases h;simp [Ret,TB,EN, *]
  replace h:=cT av h
  refine ct (sq ?_)
  obtain ⟨eu,cy,h⟩:=bind_some h
  refine rn1 (XW _ _ cy) ?_
  refine an (rt ?_)
  cases h
  simp [Ret,TB,EN, *]
 replace h:=cR ah h
 refine cf ?_
 obtain ⟨bz,aw,h⟩:=bind_some h
 refine wT (λs=>s.t 2=vP 2 1 0/\s.t 3=vP 3 1 0/\s.t 4=vP 4 1 0/\s.t 6=vP 6 1 0/\s.t 7=vI x3/\s.t 8=vI x5/\s.t 66=vB bz/\s.h 2=(1,oX 35 (M.aGh.en p0))/\s.h 3=(1,oX 380 (M.lD.en p1))/\s.h 4=(1,LF)/\s.h 6=(1,oB 35 [cS x1.Name,cI x1.aGg,.row 300012 1,.row 400012 1])/\s.h 300012=(1,oW 40 3 M.aD.en x1.aGq)/\s.h 400012=(1,oW 282 2 M.aO.en x1.aG3)/\True) ?_ ?_
 ·replace h:=aw;clear aw;rcases oQ (p1.aG7==2) with ax | ax;(replace h:=cT ax h;refine rn ?_;cases h;refine lJ ⟨?_,?_,?_,?_,?_,?_,?_,?_,?_,?_,?_,?_,?_,trivial⟩<;>(try simp +decide only [F,reduceIte,Nat.reduceAdd,qB,qC,EN, *,-h]));replace h:=cR ax h;refine rn ?_;cases h;refine lJ ⟨?_,?_,?_,?_,?_,?_,?_,?_,?_,?_,?_,?_,?_,trivial⟩<;>(try simp +decide only [F,reduceIte,Nat.reduceAdd,qB,qC,EN, *,-h])
 clear aw
 rintro al f125
 rcases oQ bz with aa | aa
 ·replace h:=cT aa h;refine ct ?_;obtain ⟨ao,cz,h⟩:=bind_some h;refine rn1 (aGU _ _ _ cz) ?_;refine ab (an (sq ?_));obtain ⟨c9,ay,h⟩:=bind_some h;refine wT (λs=>s.t 2=vP 2 1 0/\s.t 4=vP 4 1 0/\s.t 6=vP 6 1 0/\s.t 126=vB c9/\s.h 2=(1,oX 35 (M.aGh.en p0))/\s.h 4=(1,LF)/\s.h 6=(1,oB 35 [cS ao.Name,cI ao.aGg,.row 300077 ((al.h 300077).1+1),.row 400077 ((al.h 400077).1+1)])/\s.h 300077=(((al.h 300077).1+1),oW 40 3 M.aD.en ao.aGq)/\s.h 400077=(((al.h 400077).1+1),oW 282 2 M.aO.en ao.aG3)/\True) ?_ ?_;(replace h:=ay;clear ay;obtain ⟨da,ca,h⟩:=bind_some h;rcases oQ (!da) with az | az;(replace h:=cT az h;refine rn1 (Rj _ _ ca) ?_;cases h;refine lJ ⟨?_,?_,?_,?_,?_,?_,?_,?_,?_,trivial⟩<;>(try simp +decide only [F,reduceIte,Nat.reduceAdd,qB,qC,EN, *,-h]));replace h:=cR az h;obtain ⟨fa,db,h⟩:=bind_some h;refine rn2 (Rj _ _ ca) (Rj _ _ db) ?_;cases h;refine lJ ⟨?_,?_,?_,?_,?_,?_,?_,?_,?_,trivial⟩<;>(try simp +decide only [F,reduceIte,Nat.reduceAdd,qB,qC,EN, *,-h]));clear ay;rintro fc f145;rcases CH c9 with ba | ba;(replace h:=cR ba h;refine cf (sk (an (sq (rn ?_))));refine an (rt ?_);cases h;simp [Ret,TB,EN, *]);replace h:=cT ba h;refine ct (sq ?_);obtain ⟨fe,df,h⟩:=bind_some h;refine rn1 (XW _ _ df) ?_;refine an (rt ?_);cases h;simp [Ret,TB,EN, *]
 replace h:=cR aa h
 refine cf ?_
 obtain ⟨cc,bd,h⟩:=bind_some h
 refine wT (λs=>s.t 2=vP 2 1 0/\s.t 3=vP 3 1 0/\s.t 4=vP 4 1 0/\s.t 6=vP 6 1 0/\s.t 8=vI x5/\s.t 78=vB cc/\s.h 2=(1,oX 35 (M.aGh.en p0))/\s.h 3=(1,oX 380 (M.lD.en p1))/\s.h 4=(1,LF)/\s.h 6=(1,oB 35 [cS x1.Name,cI x1.aGg,.row 300012 1,.row 400012 1])/\s.h 300012=(1,oW 40 3 M.aD.en x1.aGq)/\s.h 400012=(1,oW 282 2 M.aO.en x1.aG3)/\True) ?_ ?_
 ·replace h:=bd;clear bd;rcases CH (p1.aG7==3) with bf | bf;(replace h:=cR bf h;refine rn ?_;cases h;refine lJ ⟨?_,?_,?_,?_,?_,?_,?_,?_,?_,?_,?_,?_,trivial⟩<;>(try simp +decide only [F,reduceIte,Nat.reduceAdd,qB,qC,EN, *,-h]));replace h:=cT bf h;rcases oQ (decide (x3>=0)) with bg | bg;(replace h:=cT bg h;refine rn ?_;cases h;refine lJ ⟨?_,?_,?_,?_,?_,?_,?_,?_,?_,?_,?_,?_,trivial⟩<;>(try simp +decide only [F,reduceIte,Nat.reduceAdd,qB,qC,EN, *,-h]));replace h:=cR bg h;refine rn ?_;cases h;refine lJ ⟨?_,?_,?_,?_,?_,?_,?_,?_,?_,?_,?_,?_,trivial⟩<;>(try simp +decide only [F,reduceIte,Nat.reduceAdd,qB,qC,EN, *,-h])
 clear bd
 rintro ff f165
 rcases oQ cc with ae | ae
 ·replace h:=cT ae h;refine ct ?_;obtain ⟨fg,dg,h⟩:=bind_some h;refine rn1 dg ?_;refine ab (an (sq ?_));refine cu (λs=>s.t 2=vP 2 1 0/\s.t 4=vP 4 1 0/\s.t 6=vP 6 1 0/\s.h 2=(1,oX 35 (M.aGh.en p0))/\s.h 4=(1,LF)/\s.h 6=(1,oB 35 [cS x1.Name,cI x1.aGg,.row 300012 1,.row 400012 2])/\s.h 300012=(1,oW 40 3 M.aD.en x1.aGq)/\s.h 400012=(2,oW 282 2 M.aO.en (x1.aG3++[(⟨p1.aD,p1.Field⟩:M.aO)]))/\True) ?_;rintro dh f183;obtain ⟨cd,bh,h⟩:=bind_some h;refine wT (λs=>s.h 400012=dh.h 400012/\s.t 2=vP 2 1 0/\s.t 4=vP 4 1 0/\s.t 6=vP 6 1 0/\s.t 126=vB cd/\s.h 2=(1,oX 35 (M.aGh.en p0))/\s.h 4=(1,LF)/\s.h 6=(1,oB 35 [cS x1.Name,cI x1.aGg,.row 300012 1,.row 400012 2])/\s.h 300012=(1,oW 40 3 M.aD.en x1.aGq)/\True) ?_ ?_;(replace h:=bh;clear bh;obtain ⟨di,cg,h⟩:=bind_some h;rcases oQ (!di) with bj | bj;(replace h:=cT bj h;refine rn1 (Rj _ _ cg) ?_;cases h;refine lJ ⟨?_,?_,?_,?_,?_,?_,?_,?_,?_,trivial⟩<;>(try simp +decide only [F,reduceIte,Nat.reduceAdd,qB,qC,EN, *,-h]));replace h:=cR bj h;obtain ⟨fh,dj,h⟩:=bind_some h;refine rn2 (Rj _ _ cg) (Rj _ _ dj) ?_;cases h;refine lJ ⟨?_,?_,?_,?_,?_,?_,?_,?_,?_,trivial⟩<;>(try simp +decide only [F,reduceIte,Nat.reduceAdd,qB,qC,EN, *,-h]));clear bh;rintro fj ⟨f202,f194⟩;replace f202:=f202.trans f183.2.2.2.2.2.2.2.1;rcases CH cd with bl | bl;(replace h:=cR bl h;refine cf (sk (an (sq (rn ?_))));refine an (rt ?_);cases h;simp [Ret,TB,EN, *]);replace h:=cT bl h;refine ct (sq ?_);obtain ⟨fk,dk,h⟩:=bind_some h;refine rn1 (XW _ _ dk) ?_;refine an (rt ?_);cases h;simp [Ret,TB,EN, *]
 replace h:=cR ae h
 refine cf ?_
 obtain ⟨cj,bm,h⟩:=bind_some h
 refine wT (λs=>s.t 2=vP 2 1 0/\s.t 4=vP 4 1 0/\s.t 6=vP 6 1 0/\s.t 8=vI x5/\s.t 100=vB cj/\s.h 2=(1,oX 35 (M.aGh.en p0))/\s.h 4=(1,LF)/\s.h 6=(1,oB 35 [cS x1.Name,cI x1.aGg,.row 300012 1,.row 400012 1])/\s.h 300012=(1,oW 40 3 M.aD.en x1.aGq)/\s.h 400012=(1,oW 282 2 M.aO.en x1.aG3)/\True) ?_ ?_
 ·replace h:=bm;clear bm;rcases oQ (p1.aG7==4) with bn | bn;(replace h:=cT bn h;refine rn ?_;cases h;refine lJ ⟨?_,?_,?_,?_,?_,?_,?_,?_,?_,?_,trivial⟩<;>(try simp +decide only [F,reduceIte,Nat.reduceAdd,qB,qC,EN, *,-h]));replace h:=cR bn h;refine rn ?_;cases h;refine lJ ⟨?_,?_,?_,?_,?_,?_,?_,?_,?_,?_,trivial⟩<;>(try simp +decide only [F,reduceIte,Nat.reduceAdd,qB,qC,EN, *,-h])
 clear bm
 rintro fm f214
 rcases CH cj with af | af
 ·replace h:=cR af h;refine cf (sq (rn ?_));refine an (rt ?_);cases h;simp [Ret,TB,EN, *]
 replace h:=cT af h
 refine ct ?_
 obtain ⟨fo,ai,h⟩:=bind_some h
 obtain ⟨fq,aj,h⟩:=bind_some h
 obtain ⟨ft,ck,h⟩:=bind_some h
 apply Bv mixed
 ·simp +decide only [E,reduceIte,Nat.reduceAdd,Nat.reduceMul,qB,qC,<-List.map_take,<-List.map_drop,Nat.sub_zero,L,Z4,Un,TO,M.aO.en,EN,ah,aa,ae,f214,af]
  refine ⟨by first | exact pD ai | exact (pD ai).2 | exact (pD ai).2.2,?_⟩
  try simp +decide only [E,reduceIte,Nat.reduceAdd,Nat.reduceMul,qB,qC,<-List.map_take,<-List.map_drop,Nat.sub_zero,L,Z4,Un,TO,M.aO.en,EN,ah,aa,ae,f214,af]
  refine ⟨by first | exact Ds aj | exact (Ds aj).2 | exact (Ds aj).2.2,?_⟩
  try simp +decide only [E,reduceIte,Nat.reduceAdd,Nat.reduceMul,qB,qC,<-List.map_take,<-List.map_drop,Nat.sub_zero,L,Z4,Un,TO,M.aO.en,EN,ah,aa,ae,f214,af]
  refine ⟨by first | exact Ee (f:=M.aO.en) (sz:=2) (λ_=>rfl) qe ai aj ck | (have hb:=Ee (f:=M.aO.en) (sz:=2) (λ_=>rfl) qe ai aj ck;simpa using hb),?_⟩
  try simp +decide only [E,reduceIte,Nat.reduceAdd,Nat.reduceMul,qB,qC,<-List.map_take,<-List.map_drop,Nat.sub_zero,L,Z4,Un,TO,M.aO.en,EN,ah,aa,ae,f214,af]
  exact ⟨.mk qf,Is.mk _⟩
 refine ab (an (sq ?_))
 refine cu (λs=>s.t 2=vP 2 1 0/\s.t 4=vP 4 1 0/\s.t 6=vP 6 1 0/\s.h 2=(1,oX 35 (M.aGh.en p0))/\s.h 4=(1,LF)/\s.h 6=(1,oB 35 [cS x1.Name,cI x1.aGg,.row 300012 1,.row 400012 2])/\s.h 300012=(1,oW 40 3 M.aD.en x1.aGq)/\s.h 400012=(2,oW 282 2 M.aO.en ((List.take x5.toNat x1.aG3)++(List.drop (IntKind.i64.wrap (x5+1)).toNat x1.aG3)))/\True) ?_
 rintro dm f233
 obtain ⟨cl,bo,h⟩:=bind_some h
 refine wT (λs=>s.h 400012=dm.h 400012/\s.t 2=vP 2 1 0/\s.t 4=vP 4 1 0/\s.t 6=vP 6 1 0/\s.t 126=vB cl/\s.h 2=(1,oX 35 (M.aGh.en p0))/\s.h 4=(1,LF)/\s.h 6=(1,oB 35 [cS x1.Name,cI x1.aGg,.row 300012 1,.row 400012 2])/\s.h 300012=(1,oW 40 3 M.aD.en x1.aGq)/\True) ?_ ?_
 ·replace h:=bo;clear bo;obtain ⟨dn,cn,h⟩:=bind_some h;rcases oQ (!dn) with bq | bq;(replace h:=cT bq h;refine rn1 (Rj _ _ cn) ?_;cases h;refine lJ ⟨?_,?_,?_,?_,?_,?_,?_,?_,?_,trivial⟩<;>(try simp +decide only [F,reduceIte,Nat.reduceAdd,qB,qC,EN, *,-h]));replace h:=cR bq h;obtain ⟨fw,dq,h⟩:=bind_some h;refine rn2 (Rj _ _ cn) (Rj _ _ dq) ?_;cases h;refine lJ ⟨?_,?_,?_,?_,?_,?_,?_,?_,?_,trivial⟩<;>(try simp +decide only [F,reduceIte,Nat.reduceAdd,qB,qC,EN, *,-h])
 clear bo
 rintro fx ⟨f252,f244⟩
 replace f252:=f252.trans f233.2.2.2.2.2.2.2.1
 rcases CH cl with br | br
 ·replace h:=cR br h;refine cf (sk (an (sq (rn ?_))));refine an (rt ?_);cases h;simp [Ret,TB,EN, *]
 replace h:=cT br h
 refine ct (sq ?_)
 obtain ⟨fy,dr,h⟩:=bind_some h
 refine rn1 (XW _ _ dr) ?_
 refine an (rt ?_)
 cases h
 simp [Ret,TB,EN, *]
instance:bF 351 (type_of% @aCP):=⟨@aCP⟩
theorem aDh (p0 r) (h:uY p0=some r):Sc 255 [(false,[.ptr [.sl (List.map enB p0.b),.int .i64 p0.i,.int .i64 p0.h]])] [(false,[.edit (.lend 182 [.int .i64 r.1,.int .i64 r.2.1])]),(true,M.aGr.rs r.2.2)]:=by
 unfold uY at h
 simp only [EN]
 refine sgB 36 [.cell 2 137] Tryz.func255 λbase wd B0 u0 hw0 => ?_
 refine eA (J:=λs=>s.t 0=vP 7059000 1 0/\s.h 7059000=(1,oB 182 [.old B0 (.sl (List.map enB p0.b)) (some u0),cI p0.i,cI p0.h])/\True) ?_ ?_
 ·and_intros<;>(try simp only [LN,List.map_cons,List.map_nil])<;>rfl
 rintro s1 f2
 have i1:=D5 [.b 3 1 7050000 284 4,.b 3 3 7050001 207 2,.b 3 4 7050002 211 7] λm s=>∃v4:Int,∃ao:ByteArray,∃aq:Int,∃aa:Int,∃ae:Int,∃af:List M.aG1,∃ah:List M.aP,∃ai:List M.bC,∃aj:Nat,∃ak:Nat,∃al:Nat,(s.t 0=vP 7059000 1 0/\s.t 2=vP 2 ((s1.h 2).1+1) 0/\s.t 3=vP 3 ((s1.h 3).1+1) 0/\s.t 4=vI v4/\s.h 2=(((s1.h 2).1+1),VW)/\s.h 3=(((s1.h 3).1+1),oB 137 [cS ao,.row 7050000 aj,cI aq,.row 7050001 ak,.row 7050002 al])/\s.h 7050000=(aj,oW 284 4 M.aG1.en af)/\s.h 7050001=(ak,oW 207 2 M.aP.en ah)/\s.h 7050002=(al,oW 211 7 M.bC.en ai)/\s.h 7059000=(1,oB 182 [.old B0 (.sl (List.map enB p0.b)) (some u0),cI aa,cI ae]))/\lO p0 m v4 ao aq aa ae af ah ai=some r
 have e1:=@lO.eq_2
 exact sgX
instance:bF 255 (type_of% @aDh):=⟨@aDh⟩
theorem aDd (p0 p1 p2 p3 r) (h:Ag p0 p1 p2 p3=some r):Sc 292 [aX (M.aG5.en p0),aX (M.aGr.en p1),aI p2,aI p3] [(true,M.aG5.rs r.1),(true,M.aGr.rs r.2.1),rI r.2.2]:=by unfold Ag at h;exact sgo 113 [.cell 8 45,.cell 9 137,.tmp 10] Tryz.func292
instance:bF 292 (type_of% @aDd):=⟨@aDd⟩
theorem aE2 (p0 p1 r) (h:wJ p0 p1=some r):Sc 295 [aX (M.aH.en p0),aX (M.aGr.en p1)] [(true,M.aH.rs r.1),rI r.2]:=by unfold wJ at h;exact sgo 64 [.cell 4 47,.tmp 5] Tryz.func295
instance:bF 295 (type_of% @aE2):=⟨@aE2⟩
theorem aFF (p0 r) (h:Bp p0=some r):Sc 219 [(false,[.ptr [.sl (List.map enB p0.b),.int .i64 p0.i,.int .i64 p0.h]])] [(false,[.edit (.lend 182 [.int .i64 r.1,.int .i64 r.2.1])]),(true,M.aD.rs r.2.2)]:=by
 unfold Bp at h
 simp only [EN]
 refine sgB 50 [.cell 2 40] Tryz.func219 λbase wd B0 u0 hw0 => ?_
 refine eA (J:=λs=>s.t 0=vP 7059000 1 0/\s.h 7059000=(1,oB 182 [.old B0 (.sl (List.map enB p0.b)) (some u0),cI p0.i,cI p0.h])/\True) ?_ ?_
 ·and_intros<;>(try simp only [LN,List.map_cons,List.map_nil])<;>rfl
 rintro s1 f2
 have i1:=λ(ai:(Int×Int×Int)) (s16:St)=>D5 [.b 3 1 7050000 284 4] λm s=>∃af:ByteArray,∃ah:Int,∃aa:List M.aG1,∃ae:Nat,(s.h 7059000=s16.h 7059000/\s.t 0=vP 7059000 1 0/\s.t 2=vP 2 ((s1.h 2).1+1) 0/\s.t 3=vP 3 ((s1.h 3).1+1) 0/\s.h 2=(((s1.h 2).1+1),oB 40 [cS (⟨#[]⟩:ByteArray),.nil,cI 0])/\s.h 3=(((s1.h 3).1+1),oB 40 [cS af,.row 7050000 ae,cI ah])/\s.h 7050000=(ae,oW 284 4 M.aG1.en aa))/\xY ai m af ah aa=some r
 have e1:=@xY.eq_2
 exact sgX
instance:bF 219 (type_of% @aFF):=⟨@aFF⟩
theorem aFt (p0 r) (h:Aw p0=some r):Sc 155 [(false,[.ptr [.sl (List.map enB p0.b),.int .i64 p0.i,.int .i64 p0.h]])] [(false,[.edit (.lend 182 [.int .i64 r.1,.int .i64 r.2.1])]),(true,M.bJ.rs r.2.2)]:=by
 unfold Aw at h
 simp only [EN]
 refine sgB 51 [.cell 2 96] Tryz.func155 λbase wd B0 u0 hw0 => ?_
 refine eA (J:=λs=>s.t 0=vP 7059000 1 0/\s.h 7059000=(1,oB 182 [.old B0 (.sl (List.map enB p0.b)) (some u0),cI p0.i,cI p0.h])/\True) ?_ ?_
 ·and_intros<;>(try simp only [LN,List.map_cons,List.map_nil])<;>rfl
 rintro s1 f2
 have i1:=λ(x4:(Int×Int×M.bJ)) (aa:(Int×Int×Int)) (ae:St)=>inv λm s=>∃r5:List M.aW,∃u5:Nat,(s.h 7059000=ae.h 7059000/\s.t 0=vP 7059000 1 0/\s.t 2=vP 2 ((s1.h 2).1+1) 0/\s.t 3=vP 3 ((s1.h 3).1+1) 0/\s.h 2=(((s1.h 2).1+1),WB)/\s.h 3=(((s1.h 3).1+1),oB 96 [cI x4.2.2.Id,cS x4.2.2.aGl,cS x4.2.2.Top,cI x4.2.2.aGg,.row 500005 u5,.row 600005 ((s1.h 600005).1+1),cI x4.2.2.aGu.Pc,.row 800005 ((s1.h 800005).1+1),cI x4.2.2.aGu.aHV,cB x4.2.2.aGu.aHd,cB x4.2.2.aGu.aHf])/\s.h 500005=(u5,oW 98 2 M.aW.en r5)/\s.h 600005=(((s1.h 600005).1+1),oW 216 4 M.Instr.en x4.2.2.aGu.aHP)/\s.h 800005=(((s1.h 800005).1+1),oW 3 1 enI x4.2.2.aGu.aHY))/\uU x4 aa m r5=some r
 have e1:=@uU.eq_2
 exact sgX
end Go.Proofs.YtipmihbgjolaaaaGreat.gen
