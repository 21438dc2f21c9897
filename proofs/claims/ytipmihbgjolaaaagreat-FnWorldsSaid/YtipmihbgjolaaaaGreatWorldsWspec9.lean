/-
  Helper text. No conditions.
-/
import Derived.Test.YtipmihbgjolaaaaGreatWorldsTi
import Derived.Test.YtipmihbgjolaaaaGreatWorldsWspec0
import Derived.Test.YtipmihbgjolaaaaGreatWorldsWspec1
import Derived.Test.YtipmihbgjolaaaaGreatWorldsWspec2
import Derived.Test.YtipmihbgjolaaaaGreatWorldsWspec3
import Derived.Test.YtipmihbgjolaaaaGreatWorldsWspec4
import Derived.Test.YtipmihbgjolaaaaGreatWorldsWspec5
import Derived.Test.YtipmihbgjolaaaaGreatWorldsWspec6
import Derived.Test.YtipmihbgjolaaaaGreatWorldsWspec7
import Derived.Test.YtipmihbgjolaaaaGreatWorldsWspec8
set_option linter.unusedVariables false
set_option linter.unusedSimpArgs false
namespace Go.Proofs.YtipmihbgjolaaaaGreat.gen
open Go Go.Sh
set_option maxRecDepth 20000
set_option maxHeartbeats 4000000
theorem Yk (p0 r) (h:yP p0=some r):Sc 125 [(false,[.ptr [.sl (List.map enB p0.b),.int .i64 p0.i,.int .i64 p0.h]])] [(false,[.edit (.lend 182 [.int .i64 r.1,.int .i64 r.2.1])]),(true,M.cR.rs r.2.2)]:=by
 unfold yP at h
 simp only [EN]
 refine sgB 38 [.cell 2 37] Tryz.func125 λbase wd B0 u0 hw0 => ?_
 refine eJ (J:=λs=>s.t 0=vP 7059000 1 0/\s.h 7059000=(1,oB 182 [.old B0 (.sl (List.map enB p0.b)) (some u0),cI p0.i,cI p0.h])/\True) ?_ ?_
 ·and_intros<;>(try simp only [LN,List.map_cons,List.map_nil])<;>rfl
 rintro s1 f2
 exact sgX
instance:cA 125 (type_of% @Yk):=⟨@Yk⟩
theorem c46 (p0 r) (h:yS p0=some r):Sc 46 [(false,[.ptr [.sl (List.map enB p0.b),.int .i64 p0.i,.int .i64 p0.h]])] [(false,[.edit (.lend 182 [.int .i64 r.1,.int .i64 r.2.1])]),(true,M.aO.rs r.2.2)]:=by
 unfold yS at h
 simp only [EN]
 refine sgB 50 [.cell 2 49] Tryz.func46 λbase wd B0 u0 hw0 => ?_
 refine eJ (J:=λs=>s.t 0=vP 7059000 1 0/\s.h 7059000=(1,oB 182 [.old B0 (.sl (List.map enB p0.b)) (some u0),cI p0.i,cI p0.h])/\True) ?_ ?_
 ·and_intros<;>(try simp only [LN,List.map_cons,List.map_nil])<;>rfl
 rintro s1 f2
 have i1:=λ(x4:(Int×Int×M.aO)) (ae:(Int×Int×Int)) (aa:St)=>inv λm s=>∃r5:List Int,∃u5:Nat,(s.h 2000005=aa.h 2000005/\s.h 7059000=aa.h 7059000/\s.t 0=vP 7059000 1 0/\s.t 2=vP 2 ((s1.h 2).1+1) 0/\s.t 3=vP 3 ((s1.h 3).1+1) 0/\s.h 2=(((s1.h 2).1+1),Lk)/\s.h 3=(((s1.h 3).1+1),oB 49 [cS x4.2.2.aAO,cS x4.2.2.Top,cS x4.2.2.aAC.aAO,cI x4.2.2.aAC.aAc,cI x4.2.2.aAC.aAl,cI x4.2.2.aAC.aAr,.row 700005 ((s1.h 700005).1+1),cS x4.2.2.cR.aAU.Name,cI x4.2.2.cR.aAU.aAB,.row 1000005 ((s1.h 1000005).1+1),.row 1100005 ((s1.h 1100005).1+1),.row 1200005 u5,cI x4.2.2.cR.aAn,cS x4.2.2.aG.aAU.Name,.row 1500005 ((s1.h 1500005).1+1),cI x4.2.2.aG.aAU.aAd,cI x4.2.2.aG.aAu,cI x4.2.2.aG.aAT.aH.aAK,cI x4.2.2.aG.aAT.aH.aAh,.row 2000005 ((s1.h 2000005).1+1),cI x4.2.2.aG.aAT.aAm,cI x4.2.2.aG.aAT.aAb,cI x4.2.2.aAk,cB x4.2.2.aAj])/\s.h 700005=(((s1.h 700005).1+1),oW 193 2 M.aAL.en x4.2.2.aAE.aAE)/\s.h 1000005=(((s1.h 1000005).1+1),oW 40 3 M.aA.en x4.2.2.cR.aAU.aAH)/\s.h 1100005=(((s1.h 1100005).1+1),oW 282 2 M.aN.en x4.2.2.cR.aAU.aAS)/\s.h 1200005=(u5,oW 5 1 enB r5)/\s.h 1500005=(((s1.h 1500005).1+1),oW 284 4 M.aAQ.en x4.2.2.aG.aAU.aAD))/\lB x4 ae m r5=some r
 have e1:=@lB.eq_2
 exact sgX
instance:cA 46 (type_of% @c46):=⟨@c46⟩
theorem c45 (p0 r) (h:mA p0=some r):Sc 45 [(false,[.ptr [.sl (List.map enB p0.b),.int .i64 p0.i,.int .i64 p0.h]])] [(false,[.edit (.lend 182 [.int .i64 r.1,.int .i64 r.2.1])]),(true,M.aJ.rs r.2.2)]:=by
 unfold mA at h
 simp only [EN]
 refine sgB 29 [.cell 2 26] Tryz.func45 λbase wd B0 u0 hw0 => ?_
 refine eJ (J:=λs=>s.t 0=vP 7059000 1 0/\s.h 7059000=(1,oB 182 [.old B0 (.sl (List.map enB p0.b)) (some u0),cI p0.i,cI p0.h])/\True) ?_ ?_
 ·and_intros<;>(try simp only [LN,List.map_cons,List.map_nil])<;>rfl
 rintro s1 f2
 have i1:=DW [.b 3 0 7050000 49 24] λm s=>∃v4:Int,∃aa:Int,∃ae:Int,∃af:List M.aO,∃ah:Nat,(s.t 0=vP 7059000 1 0/\s.t 2=vP 2 ((s1.h 2).1+1) 0/\s.t 3=vP 3 ((s1.h 3).1+1) 0/\s.t 4=vI v4/\s.h 2=(((s1.h 2).1+1),oB 26 [.nil])/\s.h 3=(((s1.h 3).1+1),oB 26 [.row 7050000 ah])/\s.h 7050000=(ah,oW 49 24 M.aO.en af)/\s.h 7059000=(1,oB 182 [.old B0 (.sl (List.map enB p0.b)) (some u0),cI aa,cI ae]))/\gZ p0 m v4 aa ae af=some r
 have e1:=@gZ.eq_2
 exact sgX
theorem c21 (p0 r) (h:rQ p0=some r):Sc 21 [aL enB p0] [(true,M.World.rs r)]:=by
 unfold rQ at h
 simp only [EN]
 refine sgn 61 [.cell 2 75] Tryz.func21 λbase wd => ?_
 refine sq ?_
 apply bW
 ·simp +decide only [LN,LI,E,reduceIte,Nat.reduceAdd,Nat.reduceMul,qB,qC,L,mI,EN];exact Is.mk _
 refine an (sq ?_)
 obtain ⟨x1,h2,h⟩:=bind_some h
 apply bW
 ·simp +decide only [LN,LI,E,reduceIte,Nat.reduceAdd,Nat.reduceMul,qB,qC,L,EN]
  refine ⟨_,c44 _ _ h2,?_⟩
  try simp +decide only [LN,LI,E,reduceIte,Nat.reduceAdd,Nat.reduceMul,qB,qC,L,EN]
  exact Is.mk _
 refine an (sq ?_)
 refine eJ (J:=λs=>s.t 2=vP 2 1 0/\s.t 3=vP 10 1 0/\s.h 2=(1,Ln)/\s.h 10=(1,oX 182 (M.aQ.en x1))/\True) ?_ ?_
 ·and_intros<;>(try simp +decide only [LN,LI,F,reduceIte,Nat.reduceAdd,qB,qC,EN])
 rintro s3 f4
 obtain ⟨x8,h9,h⟩:=bind_some h
 obtain ⟨aa,cg,h⟩:=bind_some h
 apply bW
 ·simp +decide only [LN,LI,E,reduceIte,Nat.reduceAdd,Nat.reduceMul,qB,qC,L,mI,EN, *,-h]
  refine ⟨_,c65 _ _ _ h9,?_⟩
  try simp +decide only [LN,LI,E,reduceIte,Nat.reduceAdd,Nat.reduceMul,qB,qC,L,mI,EN, *,-h]
  refine ⟨_,c29 _ _ cg,?_⟩
  try simp +decide only [LN,LI,E,reduceIte,Nat.reduceAdd,Nat.reduceMul,qB,qC,L,mI,EN, *,-h]
  exact Is.mk _
 refine an (sq ?_)
 refine eJ (J:=λs=>s.t 2=vP 2 1 0/\s.t 3=vP 10 1 0/\s.t 4=vP 4 ((s3.h 4).1+1) 0/\s.h 2=(1,Ln)/\s.h 4=(((s3.h 4).1+1),oB 75 [cI aa.Now,cB aa.aAi,cI aa.aAK,.row 400014 ((s3.h 400014).1+1),.row 500014 ((s3.h 500014).1+1),cI aa.aAg,.row 700014 ((s3.h 700014).1+1),.row 800014 ((s3.h 800014).1+1),.row 900014 ((s3.h 900014).1+1),.row 1000014 ((s3.h 1000014).1+1)])/\s.h 10=(1,oB 182 [cL enB x1.b,cI x8.1,cI x8.2.1])/\s.h 400014=(((s3.h 400014).1+1),oW 49 24 M.aO.en aa.aJ.aAG)/\s.h 500014=(((s3.h 500014).1+1),oW 96 11 M.bV.en aa.aAX)/\s.h 700014=(((s3.h 700014).1+1),oW 154 4 M.tV.en aa.aAW.aAW)/\s.h 800014=(((s3.h 800014).1+1),oW 157 3 M.xV.en aa.aAa.aAx)/\s.h 900014=(((s3.h 900014).1+1),oW 85 4 M.aAO.en aa.aAe)/\s.h 1000014=(((s3.h 1000014).1+1),oW 137 5 M.aAI.en aa.aAY)/\True) ?_ ?_
 ·and_intros<;>(try simp +decide only [LN,LI,F,reduceIte,Nat.reduceAdd,qB,qC,EN,M.aO.en,M.tV.en,M.xV.en,M.bV.en,M.aAI.en,M.aAO.en, *,-h])
 rintro ai f13
 obtain ⟨ar,cj,h⟩:=bind_some h
 apply bW
 ·simp +decide only [LN,LI,E,reduceIte,Nat.reduceAdd,Nat.reduceMul,qB,qC,L,RU,mI,EN, *,-h]
  refine ⟨_,c45 _ _ cj,?_⟩
  try simp +decide only [LN,LI,E,reduceIte,Nat.reduceAdd,Nat.reduceMul,qB,qC,L,RU,mI,EN, *,-h]
  exact Is.mk _
 refine an (sq (sq ?_))
 refine eJ (J:=λs=>s.t 2=vP 2 1 0/\s.t 3=vP 10 1 0/\s.t 4=vP 4 ((s3.h 4).1+1) 0/\s.h 2=(1,Ln)/\s.h 4=(((s3.h 4).1+1),oB 75 [cI aa.Now,cB aa.aAi,cI aa.aAK,.row 100016 ((ai.h 100016).1+1),.row 500014 ((s3.h 500014).1+1),cI aa.aAg,.row 700014 ((s3.h 700014).1+1),.row 800014 ((s3.h 800014).1+1),.row 900014 ((s3.h 900014).1+1),.row 1000014 ((s3.h 1000014).1+1)])/\s.h 10=(1,oB 182 [cL enB x1.b,cI ar.1,cI ar.2.1])/\s.h 100016=(((ai.h 100016).1+1),oW 49 24 M.aO.en ar.2.2.aAG)/\s.h 500014=(((s3.h 500014).1+1),oW 96 11 M.bV.en aa.aAX)/\s.h 700014=(((s3.h 700014).1+1),oW 154 4 M.tV.en aa.aAW.aAW)/\s.h 800014=(((s3.h 800014).1+1),oW 157 3 M.xV.en aa.aAa.aAx)/\s.h 900014=(((s3.h 900014).1+1),oW 85 4 M.aAO.en aa.aAe)/\s.h 1000014=(((s3.h 1000014).1+1),oW 137 5 M.aAI.en aa.aAY)/\True) ?_ ?_
 ·and_intros<;>(try simp +decide only [LN,LI,F,reduceIte,Nat.reduceAdd,qB,qC,EN,M.aO.en,M.tV.en,M.xV.en,M.bV.en,M.aAI.en,M.aAO.en, *,-h])
 rintro dh f28
 apply bW
 ·simp +decide only [LN,LI,E,reduceIte,Nat.reduceAdd,Nat.reduceMul,qB,qC,L,EN, *,-h];exact Is.mk _
 refine an (bk ?_)
 refine ES (λm s=>∃v5:Int,∃ae:Int,∃ax:Int,∃ay:Int,∃ba:List M.bV,∃af:Nat,s.t 2=vP 2 1 0/\s.t 3=vP 10 1 0/\s.t 4=vP 4 ((s3.h 4).1+1) 0/\s.t 5=vI v5/\s.h 2=(1,Ln)/\s.h 4=(((s3.h 4).1+1),oB 75 [cI aa.Now,cB aa.aAi,cI aa.aAK,.row 100016 ((ai.h 100016).1+1),.row 500014 af,cI ae,.row 700014 ((s3.h 700014).1+1),.row 800014 ((s3.h 800014).1+1),.row 900014 ((s3.h 900014).1+1),.row 1000014 ((s3.h 1000014).1+1)])/\s.h 10=(1,oB 182 [cL enB x1.b,cI ax,cI ay])/\s.h 100016=(((ai.h 100016).1+1),oW 49 24 M.aO.en ar.2.2.aAG)/\s.h 500014=(af,oW 96 11 M.bV.en ba)/\s.h 700014=(((s3.h 700014).1+1),oW 154 4 M.tV.en aa.aAW.aAW)/\s.h 800014=(((s3.h 800014).1+1),oW 157 3 M.xV.en aa.aAa.aAx)/\s.h 900014=(((s3.h 900014).1+1),oW 85 4 M.aAO.en aa.aAe)/\s.h 1000014=(((s3.h 1000014).1+1),oW 137 5 M.aAI.en aa.aAY)/\gJ x1 aa ar m v5 ae ax ay ba=some r) fuel ?_ ?_
 ·refine ⟨0,aa.aAg,ar.1,ar.2.1,aa.aAX,((s3.h 500014).1+1),?_,?_,?_,?_,?_,?_,?_,?_,?_,?_,?_,?_,?_,h⟩;all_goals simp +decide only [LN,LI,F,reduceIte,Nat.reduceAdd,qB,qC,EN,M.aO.en,M.tV.en,M.xV.en,M.bV.en,M.aAI.en,M.aAO.en, *,-h]
 rintro mL1 ck ⟨v5,ae,ax,ay,ba,af,f41,f42,f43,f44,f45,f46,f47,f48,f49,f50,f51,f52,f53,h⟩
 rcases mL1 with _ | mL1
 ·exact absurd h (by simp [gJ])
 simp only [gJ] at h
 refine sq ?_
 obtain ⟨bh,bl,h⟩:=bind_some h
 refine sJ (λs=>s.h 4=ck.h 4/\s.t 2=vP 2 1 0/\s.t 3=vP 10 1 0/\s.t 4=vP 4 ((s3.h 4).1+1) 0/\s.t 5=vI v5/\s.t 27=vB bh.1/\s.h 2=(1,Ln)/\s.h 10=(1,oB 182 [cL enB x1.b,cI bh.2.1,cI bh.2.2])/\s.h 100016=(((ai.h 100016).1+1),oW 49 24 M.aO.en ar.2.2.aAG)/\s.h 500014=(af,oW 96 11 M.bV.en ba)/\s.h 700014=(((s3.h 700014).1+1),oW 154 4 M.tV.en aa.aAW.aAW)/\s.h 800014=(((s3.h 800014).1+1),oW 157 3 M.xV.en aa.aAa.aAx)/\s.h 900014=(((s3.h 900014).1+1),oW 85 4 M.aAO.en aa.aAe)/\s.h 1000014=(((s3.h 1000014).1+1),oW 137 5 M.aAI.en aa.aAY)/\True) ?_ ?_
 ·replace h:=bl
  clear bl
  rcases zD (decide (v5<(List.length ar.2.2.aAG:Int))) with bm | bm
  ·replace h:=cE bm h;apply bW;(simp +decide only [LN,LI,E,reduceIte,Nat.reduceAdd,Nat.reduceMul,qB,qC,L,Uy,RU,mI,EN, *,-h];exact Is.mk _);cases h;refine gF ⟨?_,?_,?_,?_,?_,?_,?_,?_,?_,?_,?_,?_,?_,?_,trivial⟩<;>(try simp +decide only [LN,LI,F,reduceIte,Nat.reduceAdd,qB,qC,EN, *,-h])
  replace h:=cF bm h
  obtain ⟨di,cl,h⟩:=bind_some h
  apply bW
  ·simp +decide only [LN,LI,E,reduceIte,Nat.reduceAdd,Nat.reduceMul,qB,qC,L,Uy,RU,mI,EN, *,-h]
   refine ⟨_,c75 _ _ _ cl,?_⟩
   try simp +decide only [LN,LI,E,reduceIte,Nat.reduceAdd,Nat.reduceMul,qB,qC,L,Uy,RU,mI,EN, *,-h]
   exact Is.mk _
  cases h
  refine gF ⟨?_,?_,?_,?_,?_,?_,?_,?_,?_,?_,?_,?_,?_,?_,trivial⟩<;>(try simp +decide only [LN,LI,F,reduceIte,Nat.reduceAdd,qB,qC,EN, *,-h])
 clear bl
 rintro bd ⟨f63,f57⟩
 replace f63:=f63.trans f46
 rcases nY bh.1 with az | az
 ·replace h:=cF az h
  refine Bo (by simp +decide only [LN,LI,F,reduceIte,Nat.reduceAdd,qB,qC,EN, *,-h]) ?_
  refine sk (an (sq (bk (sq ?_))))
  obtain ⟨dj,cn,h⟩:=bind_some h
  obtain ⟨dk,dm,dn⟩:=tT cn
  apply bW
  ·simp +decide only [LN,LI,E,reduceIte,Nat.reduceAdd,Nat.reduceMul,qB,qC,L,Uy,RU,QE,mI,M.aO.en,EN, *,-h];exact Is.mk _
  refine an (sq ?_)
  obtain ⟨bj,cp,h⟩:=bind_some h
  obtain ⟨av,cq,h⟩:=bind_some h
  apply tP mixed
  ·simp +decide only [LN,LI,E,reduceIte,Nat.reduceAdd,Nat.reduceMul,qB,qC,L,ti3,ti9,QE,mI,Rq,EN, *,-h]
   refine ⟨_,c77 _ _ cp,?_⟩
   try simp +decide only [LN,LI,E,reduceIte,Nat.reduceAdd,Nat.reduceMul,qB,qC,L,ti3,ti9,QE,mI,Rq,EN, *,-h]
   refine ⟨_,c76 _ _ _ _ _ _ cq,?_⟩
   try simp +decide only [LN,LI,E,reduceIte,Nat.reduceAdd,Nat.reduceMul,qB,qC,L,ti3,ti9,QE,mI,Rq,EN, *,-h]
   exact ⟨.mk qf,Is.mk _⟩
  refine an (sq ?_)
  refine eJ (J:=λs=>s.h 4=bd.h 4/\s.t 2=vP 2 1 0/\s.t 3=vP 10 1 0/\s.t 4=vP 4 ((s3.h 4).1+1) 0/\s.t 5=vI v5/\s.t 7=vP 7 ((bd.h 7).1+1) 0/\s.h 2=(1,Ln)/\s.h 7=(((bd.h 7).1+1),oB 96 [cI av.1.Id,cS av.1.aAO,cS av.1.Top,cI av.1.aAB,.row 500045 ((bd.h 500045).1+1),.row 600045 ((bd.h 600045).1+1),cI av.1.aAJ.Pc,.row 800045 ((bd.h 800045).1+1),cI av.1.aAJ.aAy,cB av.1.aAJ.aA6,cB av.1.aAJ.aA7])/\s.h 10=(1,oB 182 [cL enB x1.b,cI bj.1,cI bj.2.1])/\s.h 100016=(((ai.h 100016).1+1),oW 49 24 M.aO.en ar.2.2.aAG)/\s.h 500014=(af,oW 96 11 M.bV.en ba)/\s.h 500045=(((bd.h 500045).1+1),oW 98 2 M.aU.en av.1.aU)/\s.h 600045=(((bd.h 600045).1+1),oW 216 4 M.Instr.en av.1.aAJ.aAp)/\s.h 700014=(((s3.h 700014).1+1),oW 154 4 M.tV.en aa.aAW.aAW)/\s.h 800014=(((s3.h 800014).1+1),oW 157 3 M.xV.en aa.aAa.aAx)/\s.h 800045=(((bd.h 800045).1+1),oW 3 1 enI av.1.aAJ.aA1)/\s.h 900014=(((s3.h 900014).1+1),oW 85 4 M.aAO.en aa.aAe)/\s.h 1000014=(((s3.h 1000014).1+1),oW 137 5 M.aAI.en aa.aAY)/\True) ?_ ?_
  ·and_intros<;>(try simp +decide only [LN,LI,F,reduceIte,Nat.reduceAdd,qB,qC,EN,M.aO.en,M.Instr.en,M.aU.en,M.tV.en,M.xV.en,M.bV.en,M.aAI.en,M.aAO.en,enI, *,-h])
  rintro dq ⟨f91,f85⟩
  replace f91:=f91.trans f63
  obtain ⟨cr,bn,h⟩:=bind_some h
  apply bW
  ·simp +decide only [LN,LI,E,reduceIte,Nat.reduceAdd,Nat.reduceMul,qB,qC,L,Ue,mI,Rq,M.bV.en,EN, *,-h]
   refine ⟨by (have hb:=fJ bn);simp [M.bV.en,qE,aP] at hb ⊢ <;> omega,?_⟩
   try simp +decide only [LN,LI,E,reduceIte,Nat.reduceAdd,Nat.reduceMul,qB,qC,L,Ue,mI,Rq,M.bV.en,EN, *,-h]
   exact Is.mk _
  refine an ?_
  refine eJ (J:=λs=>s.t 2=vP 2 1 0/\s.t 3=vP 10 1 0/\s.t 4=vP 4 ((s3.h 4).1+1) 0/\s.t 5=vI v5/\s.h 2=(1,Ln)/\s.h 4=(((s3.h 4).1+1),oB 75 [cI aa.Now,cB aa.aAi,cI aa.aAK,.row 100016 ((ai.h 100016).1+1),.row 500014 (af+1),cI ae,.row 700014 ((s3.h 700014).1+1),.row 800014 ((s3.h 800014).1+1),.row 900014 ((s3.h 900014).1+1),.row 1000014 ((s3.h 1000014).1+1)])/\s.h 10=(1,oB 182 [cL enB x1.b,cI bj.1,cI bj.2.1])/\s.h 100016=(((ai.h 100016).1+1),oW 49 24 M.aO.en ar.2.2.aAG)/\s.h 500014=((af+1),oW 96 11 M.bV.en (ba++[av.1]))/\s.h 700014=(((s3.h 700014).1+1),oW 154 4 M.tV.en aa.aAW.aAW)/\s.h 800014=(((s3.h 800014).1+1),oW 157 3 M.xV.en aa.aAa.aAx)/\s.h 900014=(((s3.h 900014).1+1),oW 85 4 M.aAO.en aa.aAe)/\s.h 1000014=(((s3.h 1000014).1+1),oW 137 5 M.aAI.en aa.aAY)/\True) ?_ ?_
  ·and_intros<;>(try simp +decide only [LN,LI,F,reduceIte,Nat.reduceAdd,qB,qC,EN,M.aO.en,M.tV.en,M.xV.en,M.bV.en,M.aAI.en,M.aAO.en, *,-h])
  rintro cw f106
  apply bW
  ·simp +decide only [LN,LI,E,reduceIte,Nat.reduceAdd,Nat.reduceMul,qB,qC,L,ti3,mI,EN, *,-h];exact Is.mk _
  refine ab (an ?_)
  apply bW
  ·simp +decide only [LN,LI,E,reduceIte,Nat.reduceAdd,Nat.reduceMul,qB,qC,L,EN, *,-h];exact Is.mk _
  refine gF ⟨mL1,qb,(IntKind.i64.wrap (v5+1)),(IntKind.i64.wrap (ae+1)),bj.1,bj.2.1,(ba++[av.1]),(af+1),?_,?_,?_,?_,?_,?_,?_,?_,?_,?_,?_,?_,?_,h⟩
  all_goals simp +decide only [LN,LI,F,reduceIte,Nat.reduceAdd,qB,qC,EN,M.aO.en,M.tV.en,M.xV.en,M.bV.en,M.aAI.en,M.aAO.en, *,-h]
 replace h:=cE az h
 refine Ca (by simp +decide only [LN,LI,F,reduceIte,Nat.reduceAdd,qB,qC,EN, *,-h]) ?_
 refine xt (BA (Br (E7 (an (sq ?_)))))
 apply On (n:=2) (f:=78) (d:=60) (N':=47) (vars:=[.cell 4 75]) rfl rfl rfl rfl qe Tryz.func78 rfl rfl rfl qf qe
 ·simp +decide only [LN,LI,E,reduceIte,Nat.reduceAdd,Nat.reduceMul,qB,qC,L,mI,EN, *,-h];exact Is.mk _
 intro fv
 refine eJ (J:=λs=>s.t 0=vP 10 1 0/\s.t 1 = .v true [.dat (.int .i64 aa.Now),.dat (.bool aa.aAi),.dat (.int .i64 aa.aAK),.row 100016 ((ai.h 100016).1+1),.row 500014 af,.dat (.int .i64 ae),.row 700014 ((s3.h 700014).1+1),.row 800014 ((s3.h 800014).1+1),.row 900014 ((s3.h 900014).1+1),.row 1000014 ((s3.h 1000014).1+1)]/\s.fr 2=vP 2 1 0/\s.h 2=(1,Ln)/\s.h 10=(1,oB 182 [cL enB x1.b,cI bh.2.1,cI bh.2.2])/\s.h 100016=(((ai.h 100016).1+1),oW 49 24 M.aO.en ar.2.2.aAG)/\s.h 500014=(af,oW 96 11 M.bV.en ba)/\s.h 700014=(((s3.h 700014).1+1),oW 154 4 M.tV.en aa.aAW.aAW)/\s.h 800014=(((s3.h 800014).1+1),oW 157 3 M.xV.en aa.aAa.aAx)/\s.h 900014=(((s3.h 900014).1+1),oW 85 4 M.aAO.en aa.aAe)/\s.h 1000014=(((s3.h 1000014).1+1),oW 137 5 M.aAI.en aa.aAY)/\True) ?_ ?_
 ·and_intros<;>(try first | (simp +decide only [LN,LI,F,reduceIte,Nat.reduceAdd,qB,qC,EN,M.aO.en,M.tV.en,M.xV.en,M.bV.en,M.aAI.en,M.aAO.en, *,-h];done) | (simp +decide only [LN,LI,F,reduceIte,Nat.reduceAdd,qB,qC,EN,M.aO.en,M.tV.en,M.xV.en,M.bV.en,M.aAI.en,M.aAO.en, *,-h];rfl) | rfl)
 rintro bf f120
 refine sq ?_
 apply bW
 ·simp +decide only [LN,LI,E,reduceIte,Nat.reduceAdd,Nat.reduceMul,qB,qC,L,mI,EN, *,-h];exact Is.mk _
 refine an (sq (sq ?_))
 obtain ⟨aj,bo,h⟩:=bind_some h
 apply bW
 ·simp +decide only [LN,LI,E,reduceIte,Nat.reduceAdd,Nat.reduceMul,qB,qC,L,EN, *,-h]
  refine ⟨_,c65 _ _ _ bo,?_⟩
  try simp +decide only [LN,LI,E,reduceIte,Nat.reduceAdd,Nat.reduceMul,qB,qC,L,EN, *,-h]
  exact Is.mk _
 refine an (bk (sq ?_))
 refine eJ (J:=λs=>s.t 0=vP 10 1 0/\s.t 3=vP 3 ((bf.h 3).1+1) 0/\s.t 4=vP 4 ((bf.h 4).1+1) 0/\s.t 6=vI aj.2.2/\s.fr 2=vP 2 1 0/\s.h 2=(1,Ln)/\s.h 3=(((bf.h 3).1+1),oB 75 [cI aa.Now,cB aa.aAi,cI aa.aAK,.row 100016 ((ai.h 100016).1+1),.row 500014 af,cI ae,.row 700014 ((s3.h 700014).1+1),.row 800014 ((s3.h 800014).1+1),.row 900014 ((s3.h 900014).1+1),.row 1000014 ((s3.h 1000014).1+1)])/\s.h 4=(((bf.h 4).1+1),Ln)/\s.h 10=(1,oB 182 [cL enB x1.b,cI aj.1,cI aj.2.1])/\s.h 100016=(((ai.h 100016).1+1),oW 49 24 M.aO.en ar.2.2.aAG)/\s.h 500014=(af,oW 96 11 M.bV.en ba)/\s.h 700014=(((s3.h 700014).1+1),oW 154 4 M.tV.en aa.aAW.aAW)/\s.h 800014=(((s3.h 800014).1+1),oW 157 3 M.xV.en aa.aAa.aAx)/\s.h 900014=(((s3.h 900014).1+1),oW 85 4 M.aAO.en aa.aAe)/\s.h 1000014=(((s3.h 1000014).1+1),oW 137 5 M.aAI.en aa.aAY)/\True) ?_ ?_
 ·and_intros<;>(try simp +decide only [LN,LI,F,reduceIte,Nat.reduceAdd,qB,qC,EN,M.aO.en,M.tV.en,M.xV.en,M.bV.en,M.aAI.en,M.aAO.en, *,-h])
 rintro bq f134
 apply bW
 ·simp +decide only [LN,LI,E,reduceIte,Nat.reduceAdd,Nat.reduceMul,qB,qC,L,EN, *,-h];exact Is.mk _
 refine an ?_
 rcases nY (aj.2.2==0) with ah | ah
 ·replace h:=cF ah h
  refine Bo (by simp +decide only [LN,LI,F,reduceIte,Nat.reduceAdd,qB,qC,EN, *,-h]) ?_
  obtain ⟨br,bt,h⟩:=bind_some h
  apply bW
  ·simp +decide only [LN,LI,E,reduceIte,Nat.reduceAdd,Nat.reduceMul,qB,qC,L,ti3,mI,Uk,enI,EN, *,-h]
   have hc:=c69 _ _ _ bt
   simp only [List.map_append,List.map_cons,List.map_nil,enI] at hc
   refine ⟨_,hc,?_⟩
   try simp +decide only [LN,LI,E,reduceIte,Nat.reduceAdd,Nat.reduceMul,qB,qC,L,ti3,mI,Uk,enI,EN, *,-h]
   exact Is.mk _
  refine ab (an (sq ?_))
  apply bW
  ·simp +decide only [LN,LI,E,reduceIte,Nat.reduceAdd,Nat.reduceMul,qB,qC,L,mI,EN, *,-h];exact Is.mk _
  refine an (rt ?_)
  apply Oi.mk (l:=[(true,[.dat (.int .i64 br.2.2),.dat (.bool aa.aAi),.dat (.int .i64 aa.aAK),.row 100016 ((ai.h 100016).1+1),.row 500014 af,.dat (.int .i64 ae),.row 700014 ((s3.h 700014).1+1),.row 800014 ((s3.h 800014).1+1),.row 900014 ((s3.h 900014).1+1),.row 1000014 ((s3.h 1000014).1+1)])]) (by simp [LN,LI,mI,EN,az,f134,ah])
  ·simp +decide only [Hj,LN,LI,E,reduceIte,Nat.reduceAdd,Nat.reduceMul,qB,qC,L,mI,EN, *,-h];exact Is.mk _
  refine an (rt ?_)
  cases h
  simp [Ret,LN,LI,EN,mI,M.aO.en,M.tV.en,M.xV.en,M.bV.en,M.aAI.en,M.aAO.en, *]
 replace h:=cE ah h
 refine Ca (by simp +decide only [LN,LI,F,reduceIte,Nat.reduceAdd,qB,qC,EN, *,-h]) ?_
 refine sq ?_
 apply bW
 ·simp +decide only [LN,LI,E,reduceIte,Nat.reduceAdd,Nat.reduceMul,qB,qC,L,EN, *,-h];exact Is.mk _
 refine an ?_
 rcases nY (aj.2.2==1) with ak | ak
 ·replace h:=cF ak h;refine Bo (by simp +decide only [LN,LI,F,reduceIte,Nat.reduceAdd,qB,qC,EN, *,-h]) ?_;apply bW;(simp +decide only [LN,LI,E,reduceIte,Nat.reduceAdd,Nat.reduceMul,qB,qC,L,ti3,mI,EN, *,-h];exact Is.mk _);refine ab (an (sq ?_));apply bW;(simp +decide only [LN,LI,E,reduceIte,Nat.reduceAdd,Nat.reduceMul,qB,qC,L,mI,EN, *,-h];exact Is.mk _);refine an (rt ?_);apply Oi.mk (l:=[(true,[.dat (.int .i64 aa.Now),.dat (.bool aa.aAi),.dat (.int .i64 0),.row 100016 ((ai.h 100016).1+1),.row 500014 af,.dat (.int .i64 ae),.row 700014 ((s3.h 700014).1+1),.row 800014 ((s3.h 800014).1+1),.row 900014 ((s3.h 900014).1+1),.row 1000014 ((s3.h 1000014).1+1)])]) (by simp [LN,LI,mI,EN,az,f134,ah,ak]);(simp +decide only [Hj,LN,LI,E,reduceIte,Nat.reduceAdd,Nat.reduceMul,qB,qC,L,mI,EN, *,-h];exact Is.mk _);refine an (rt ?_);cases h;simp [Ret,LN,LI,EN,mI,M.aO.en,M.tV.en,M.xV.en,M.bV.en,M.aAI.en,M.aAO.en, *]
 replace h:=cE ak h
 refine Ca (by simp +decide only [LN,LI,F,reduceIte,Nat.reduceAdd,qB,qC,EN, *,-h]) ?_
 refine sq ?_
 apply bW
 ·simp +decide only [LN,LI,E,reduceIte,Nat.reduceAdd,Nat.reduceMul,qB,qC,L,EN, *,-h];exact Is.mk _
 refine an ?_
 rcases nY (aj.2.2==2) with al | al
 ·replace h:=cF al h
  refine Bo (by simp +decide only [LN,LI,F,reduceIte,Nat.reduceAdd,qB,qC,EN, *,-h]) ?_
  obtain ⟨cx,bg,h⟩:=bind_some h
  apply bW
  ·simp +decide only [LN,LI,E,reduceIte,Nat.reduceAdd,Nat.reduceMul,qB,qC,<-List.map_take,<-List.map_drop,L,Ja,mI,O0,M.aAO.en,EN, *,-h]
   refine ⟨by first | exact sK bg | exact (sK bg).2 | exact (sK bg).2.2,?_⟩
   try simp +decide only [LN,LI,E,reduceIte,Nat.reduceAdd,Nat.reduceMul,qB,qC,<-List.map_take,<-List.map_drop,L,Ja,mI,O0,M.aAO.en,EN, *,-h]
   exact Is.mk _
  refine ab (an (sq ?_))
  apply bW
  ·simp +decide only [LN,LI,E,reduceIte,Nat.reduceAdd,Nat.reduceMul,qB,qC,L,mI,EN, *,-h];exact Is.mk _
  refine an (rt ?_)
  apply Oi.mk (l:=[(true,[.dat (.int .i64 aa.Now),.dat (.bool aa.aAi),.dat (.int .i64 aa.aAK),.row 100016 ((ai.h 100016).1+1),.row 500014 af,.dat (.int .i64 ae),.row 700014 ((s3.h 700014).1+1),.row 800014 ((s3.h 800014).1+1),.part 900014 ((s3.h 900014).1+1) 0 (2:Int).toNat,.row 1000014 ((s3.h 1000014).1+1)])]) (by simp [LN,LI,mI,EN,az,f134,ah,ak,al])
  ·simp +decide only [Hj,LN,LI,E,reduceIte,Nat.reduceAdd,Nat.reduceMul,qB,qC,L,mI,EN, *,-h];exact Is.mk _
  refine an ?_
  refine Dc (Gho.T7 (b:=2) (vb:=1) (t:=75) (cells:=[.dat (.int .i64 aa.Now),.dat (.bool aa.aAi),.dat (.int .i64 aa.aAK),.row 100016 ((ai.h 100016).1+1),.row 500014 af,.dat (.int .i64 ae),.row 700014 ((s3.h 700014).1+1),.row 800014 ((s3.h 800014).1+1),.part 900014 ((s3.h 900014).1+1) 0 (2:Int).toNat,.row 1000014 ((s3.h 1000014).1+1)]) (c:=8) (j:=900014) (vj:=((s3.h 900014).1+1)) (K:=900014) (n:=(2:Int).toNat) (e:=85) (sz:=4) (dp:=true) (xs:=(List.map M.aAO.en aa.aAe)) (List.map M.aAO.en (List.take (2:Int).toNat aa.aAe)) (by first | (simp +decide only [LN,LI,F,reduceIte,Nat.reduceAdd,qB,qC,EN,M.aAO.en, *,-h];done) | (simp +decide only [LN,LI,F,reduceIte,Nat.reduceAdd,qB,qC,EN,M.aAO.en, *,-h];rfl) | rfl) rfl (by first | (simp +decide only [LN,LI,F,reduceIte,Nat.reduceAdd,qB,qC,EN,M.aAO.en, *,-h];done) | (simp +decide only [LN,LI,F,reduceIte,Nat.reduceAdd,qB,qC,EN,M.aAO.en, *,-h];rfl) | rfl) qe (by rw [List.length_map];exact (sK bg).2) (by rw [List.map_take])) ?_
  refine eJ (J:=λs=>s.t 2=vP 2 1 0/\s.h 2=(1,oB 75 [cI aa.Now,cB aa.aAi,cI aa.aAK,.row 100016 ((ai.h 100016).1+1),.row 500014 af,cI ae,.row 700014 ((s3.h 700014).1+1),.row 800014 ((s3.h 800014).1+1),.row 900014 (((s3.h 900014).1+1)+1),.row 1000014 ((s3.h 1000014).1+1)])/\s.h 100016=(((ai.h 100016).1+1),oW 49 24 M.aO.en ar.2.2.aAG)/\s.h 500014=(af,oW 96 11 M.bV.en ba)/\s.h 700014=(((s3.h 700014).1+1),oW 154 4 M.tV.en aa.aAW.aAW)/\s.h 800014=(((s3.h 800014).1+1),oW 157 3 M.xV.en aa.aAa.aAx)/\s.h 900014=((((s3.h 900014).1+1)+1),oW 85 4 M.aAO.en (List.take (2:Int).toNat aa.aAe))/\s.h 1000014=(((s3.h 1000014).1+1),oW 137 5 M.aAI.en aa.aAY)/\True) ?_ ?_
  ·and_intros<;>(try simp +decide only [LN,LI,F,reduceIte,Nat.reduceAdd,qB,qC,EN,M.aO.en,M.tV.en,M.xV.en,M.bV.en,M.aAI.en,M.aAO.en, *,-h])
  rintro cy f157
  refine rt ?_
  cases h
  simp [Ret,LN,LI,EN,mI,M.aO.en,M.tV.en,M.xV.en,M.bV.en,M.aAI.en,M.aAO.en, *]
 replace h:=cE al h
 refine Ca (by simp +decide only [LN,LI,F,reduceIte,Nat.reduceAdd,qB,qC,EN, *,-h]) ?_
 refine sq ?_
 apply bW
 ·simp +decide only [LN,LI,E,reduceIte,Nat.reduceAdd,Nat.reduceMul,qB,qC,L,EN, *,-h];exact Is.mk _
 refine an ?_
 rcases nY (aj.2.2==3) with ao | ao
 ·replace h:=cF ao h
  refine Bo (by simp +decide only [LN,LI,F,reduceIte,Nat.reduceAdd,qB,qC,EN, *,-h]) ?_
  obtain ⟨cz,bu,h⟩:=bind_some h
  apply bW
  ·simp +decide only [LN,LI,E,reduceIte,Nat.reduceAdd,Nat.reduceMul,qB,qC,L,RU,mI,EN, *,-h]
   refine ⟨_,c45 _ _ bu,?_⟩
   try simp +decide only [LN,LI,E,reduceIte,Nat.reduceAdd,Nat.reduceMul,qB,qC,L,RU,mI,EN, *,-h]
   exact Is.mk _
  refine ab (an (sq ?_))
  apply bW
  ·simp +decide only [LN,LI,E,reduceIte,Nat.reduceAdd,Nat.reduceMul,qB,qC,L,mI,EN, *,-h];exact Is.mk _
  refine an (rt ?_)
  apply Oi.mk (l:=[(true,[.dat (.int .i64 aa.Now),.dat (.bool aa.aAi),.dat (.int .i64 aa.aAK),.row 100025 ((bq.h 100025).1+1),.row 500014 af,.dat (.int .i64 ae),.row 700014 ((s3.h 700014).1+1),.row 800014 ((s3.h 800014).1+1),.row 900014 ((s3.h 900014).1+1),.row 1000014 ((s3.h 1000014).1+1)])]) (by simp [LN,LI,mI,EN,az,f134,ah,ak,al,ao])
  ·simp +decide only [Hj,LN,LI,E,reduceIte,Nat.reduceAdd,Nat.reduceMul,qB,qC,L,mI,EN, *,-h];exact Is.mk _
  refine an (rt ?_)
  cases h
  simp [Ret,LN,LI,EN,mI,M.aO.en,M.tV.en,M.xV.en,M.bV.en,M.aAI.en,M.aAO.en, *]
 replace h:=cE ao h
 refine Ca (by simp +decide only [LN,LI,F,reduceIte,Nat.reduceAdd,qB,qC,EN, *,-h]) ?_
 refine sq ?_
 apply bW
 ·simp +decide only [LN,LI,E,reduceIte,Nat.reduceAdd,Nat.reduceMul,qB,qC,L,EN, *,-h];exact Is.mk _
 refine an ?_
 rcases nY (aj.2.2==4) with aq | aq
 ·replace h:=cF aq h
  refine Bo (by simp +decide only [LN,LI,F,reduceIte,Nat.reduceAdd,qB,qC,EN, *,-h]) ?_
  obtain ⟨da,bw,h⟩:=bind_some h
  obtain ⟨db,bx,h⟩:=bind_some h
  apply tP mixed
  ·simp +decide only [LN,LI,E,reduceIte,Nat.reduceAdd,Nat.reduceMul,qB,qC,L,Ue,mI,Rq,M.bV.en,EN, *,-h]
   refine ⟨_,Zo _ _ bw,?_⟩
   try simp +decide only [LN,LI,E,reduceIte,Nat.reduceAdd,Nat.reduceMul,qB,qC,L,Ue,mI,Rq,M.bV.en,EN, *,-h]
   refine ⟨by (have hb:=fJ bx);simp [M.bV.en,qE,aP] at hb ⊢ <;> omega,?_⟩
   try simp +decide only [LN,LI,E,reduceIte,Nat.reduceAdd,Nat.reduceMul,qB,qC,L,Ue,mI,Rq,M.bV.en,EN, *,-h]
   exact ⟨.mk qf,Is.mk _⟩
  refine ab (an (sq ?_))
  apply bW
  ·simp +decide only [LN,LI,E,reduceIte,Nat.reduceAdd,Nat.reduceMul,qB,qC,L,mI,EN, *,-h];exact Is.mk _
  refine an (rt ?_)
  apply Oi.mk (l:=[(true,[.dat (.int .i64 aa.Now),.dat (.bool aa.aAi),.dat (.int .i64 aa.aAK),.row 100016 ((ai.h 100016).1+1),.row 500014 (af+1),.dat (.int .i64 ae),.row 700014 ((s3.h 700014).1+1),.row 800014 ((s3.h 800014).1+1),.row 900014 ((s3.h 900014).1+1),.row 1000014 ((s3.h 1000014).1+1)])]) (by simp [LN,LI,mI,EN,az,f134,ah,ak,al,ao,aq])
  ·simp +decide only [Hj,LN,LI,E,reduceIte,Nat.reduceAdd,Nat.reduceMul,qB,qC,L,mI,EN, *,-h];exact Is.mk _
  refine an (rt ?_)
  cases h
  simp [Ret,LN,LI,EN,mI,M.aO.en,M.tV.en,M.xV.en,M.bV.en,M.aAI.en,M.aAO.en, *]
 replace h:=cE aq h
 refine Ca (by simp +decide only [LN,LI,F,reduceIte,Nat.reduceAdd,qB,qC,EN, *,-h]) ?_
 refine sq ?_
 apply bW
 ·simp +decide only [LN,LI,E,reduceIte,Nat.reduceAdd,Nat.reduceMul,qB,qC,L,EN, *,-h];exact Is.mk _
 refine an ?_
 rcases nY (aj.2.2==5) with aw | aw
 ·replace h:=cF aw h;refine Bo (by simp +decide only [LN,LI,F,reduceIte,Nat.reduceAdd,qB,qC,EN, *,-h]) ?_;apply bW;(simp +decide only [LN,LI,E,reduceIte,Nat.reduceAdd,Nat.reduceMul,qB,qC,L,ti3,mI,EN, *,-h];exact Is.mk _);refine ab (an (sq ?_));apply bW;(simp +decide only [LN,LI,E,reduceIte,Nat.reduceAdd,Nat.reduceMul,qB,qC,L,mI,EN, *,-h];exact Is.mk _);refine an (rt ?_);apply Oi.mk (l:=[(true,[.dat (.int .i64 aa.Now),.dat (.bool aa.aAi),.dat (.int .i64 aa.aAK),.row 100016 ((ai.h 100016).1+1),.row 500014 af,.dat (.int .i64 0),.row 700014 ((s3.h 700014).1+1),.row 800014 ((s3.h 800014).1+1),.row 900014 ((s3.h 900014).1+1),.row 1000014 ((s3.h 1000014).1+1)])]) (by simp [LN,LI,mI,EN,az,f134,ah,ak,al,ao,aq,aw]);(simp +decide only [Hj,LN,LI,E,reduceIte,Nat.reduceAdd,Nat.reduceMul,qB,qC,L,mI,EN, *,-h];exact Is.mk _);refine an (rt ?_);cases h;simp [Ret,LN,LI,EN,mI,M.aO.en,M.tV.en,M.xV.en,M.bV.en,M.aAI.en,M.aAO.en, *]
 replace h:=cE aw h
 refine Ca (by simp +decide only [LN,LI,F,reduceIte,Nat.reduceAdd,qB,qC,EN, *,-h]) ?_
 refine sq ?_
 apply bW
 ·simp +decide only [LN,LI,E,reduceIte,Nat.reduceAdd,Nat.reduceMul,qB,qC,L,EN, *,-h];exact Is.mk _
 refine an ?_
 rcases zD (aj.2.2==6) with b7 | b7
 ·replace h:=cE b7 h;refine Ca (by simp +decide only [LN,LI,F,reduceIte,Nat.reduceAdd,qB,qC,EN, *,-h]) ?_;refine sk (ab (an (sq ?_)));apply bW;(simp +decide only [LN,LI,E,reduceIte,Nat.reduceAdd,Nat.reduceMul,qB,qC,L,mI,EN, *,-h];exact Is.mk _);refine an (rt ?_);apply Oi.mk (l:=[(true,[.dat (.int .i64 aa.Now),.dat (.bool aa.aAi),.dat (.int .i64 aa.aAK),.row 100016 ((ai.h 100016).1+1),.row 500014 af,.dat (.int .i64 ae),.row 700014 ((s3.h 700014).1+1),.row 800014 ((s3.h 800014).1+1),.row 900014 ((s3.h 900014).1+1),.row 1000014 ((s3.h 1000014).1+1)])]) (by simp [LN,LI,mI,EN,az,f134,ah,ak,al,ao,aq,aw,b7]);(simp +decide only [Hj,LN,LI,E,reduceIte,Nat.reduceAdd,Nat.reduceMul,qB,qC,L,mI,EN, *,-h];exact Is.mk _);refine an (rt ?_);cases h;simp [Ret,LN,LI,EN,mI,M.aO.en,M.tV.en,M.xV.en,M.bV.en,M.aAI.en,M.aAO.en, *]
 replace h:=cF b7 h
 refine Bo (by simp +decide only [LN,LI,F,reduceIte,Nat.reduceAdd,qB,qC,EN, *,-h]) ?_
 obtain ⟨df,bz,h⟩:=bind_some h
 obtain ⟨dg,c9,h⟩:=bind_some h
 obtain ⟨ca,cc,cd⟩:=tT c9
 apply tP mixed
 ·simp +decide only [LN,LI,E,reduceIte,Nat.reduceAdd,Nat.reduceMul,qB,qC,L,Vm,mI,TM,M.aAI.en,EN, *,-h]
  refine ⟨_,Z3 _ _ bz,?_⟩
  try simp +decide only [LN,LI,E,reduceIte,Nat.reduceAdd,Nat.reduceMul,qB,qC,L,Vm,mI,TM,M.aAI.en,EN, *,-h]
  exact ⟨.mk qf,Is.mk _⟩
 refine ab (an (sq ?_))
 apply bW
 ·simp +decide only [LN,LI,E,reduceIte,Nat.reduceAdd,Nat.reduceMul,qB,qC,L,mI,EN, *,-h];exact Is.mk _
 refine an (rt ?_)
 apply Oi.mk (l:=[(true,[.dat (.int .i64 aa.Now),.dat (.bool aa.aAi),.dat (.int .i64 aa.aAK),.row 100016 ((ai.h 100016).1+1),.row 500014 af,.dat (.int .i64 ae),.row 700014 ((s3.h 700014).1+1),.row 800014 ((s3.h 800014).1+1),.row 900014 ((s3.h 900014).1+1),.row 1000014 ((s3.h 1000014).1+1)])]) (by simp [LN,LI,mI,EN,az,f134,ah,ak,al,ao,aq,aw,b7,ca,cc,cd])
 ·simp +decide only [Hj,LN,LI,E,reduceIte,Nat.reduceAdd,Nat.reduceMul,qB,qC,L,mI,EN, *,-h];exact Is.mk _
 refine an (rt ?_)
 cases h
 simp [Ret,LN,LI,EN,mI,M.aO.en,M.tV.en,M.xV.en,M.bV.en,M.aAI.en,M.aAO.en, *]
end Go.Proofs.YtipmihbgjolaaaaGreat.gen
