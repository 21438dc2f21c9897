/-
  Helper text. No conditions.
-/
import Derived.Test.YtipmihbgjolaaaaGreatLoadedFilesTi
import Derived.Test.YtipmihbgjolaaaaGreatLoadedFilesWspec0
import Derived.Test.YtipmihbgjolaaaaGreatLoadedFilesWspec2
import Derived.Test.YtipmihbgjolaaaaGreatLoadedFilesWspec3
import Derived.Test.YtipmihbgjolaaaaGreatLoadedFilesWspec4
import Derived.Test.YtipmihbgjolaaaaGreatLoadedFilesWspec5
import Derived.Test.YtipmihbgjolaaaaGreatLoadedFilesWspec6
import Derived.Test.YtipmihbgjolaaaaGreatLoadedFilesWspec7
import Derived.Test.YtipmihbgjolaaaaGreatLoadedFilesWspec8
import Derived.Test.YtipmihbgjolaaaaGreatLoadedFilesWspec9
set_option linter.unusedVariables false
set_option linter.unusedSimpArgs false
namespace Go.Proofs.YtipmihbgjolaaaaGreat.gen
open Go Go.Sh
set_option maxRecDepth 20000
set_option maxHeartbeats 4000000
theorem aEP (p0 r) (h:yY p0=some r):Sc 167 [(false,[.ptr [.sl (List.map enB p0.b),.int .i64 p0.i,.int .i64 p0.h]])] [(false,[.edit (.lend 182 [.int .i64 r.1,.int .i64 r.2.1])]),(true,M.World.rs r.2.2)]:=by
 unfold yY at h
 simp only [EN]
 refine sgB 68 [.cell 2 75] Tryz.func167 λbase wd B0 u0 hw0 => ?_
 refine eY (J:=λs=>s.t 0=vP 7059000 1 0/\s.h 7059000=(1,oB 182 [.old B0 (.sl (List.map enB p0.b)) (some u0),cI p0.i,cI p0.h])/\True) ?_ ?_
 ·and_intros<;>(try simp only [LN,List.map_cons,List.map_nil])<;>rfl
 rintro s1 f2
 have i1:=DV [.b 3 3 7050000 49 24,.b 3 4 7050001 96 11,.b 3 6 7050002 154 4,.b 3 7 7050003 157 3,.b 3 8 7050004 85 4,.b 3 9 7050005 137 5] λm s=>∃v4:Int,∃ay:Int,∃az:Bool,∃ba:Int,∃bd:Int,∃aa:Int,∃ae:Int,∃af:List M.aJ,∃ah:List M.bC,∃ai:List M.mZ,∃aj:List M.tB,∃ak:List M.aFD,∃al:List M.aFG,∃ao:Nat,∃aq:Nat,∃ar:Nat,∃av:Nat,∃aw:Nat,∃ax:Nat,(s.t 0=vP 7059000 1 0/\s.t 2=vP 2 ((s1.h 2).1+1) 0/\s.t 3=vP 3 ((s1.h 3).1+1) 0/\s.t 4=vI v4/\s.h 2=(((s1.h 2).1+1),Qy)/\s.h 3=(((s1.h 3).1+1),oB 75 [cI ay,cB az,cI ba,.row 7050000 ao,.row 7050001 aq,cI bd,.row 7050002 ar,.row 7050003 av,.row 7050004 aw,.row 7050005 ax])/\s.h 7050000=(ao,oW 49 24 M.aJ.en af)/\s.h 7050001=(aq,oW 96 11 M.bC.en ah)/\s.h 7050002=(ar,oW 154 4 M.mZ.en ai)/\s.h 7050003=(av,oW 157 3 M.tB.en aj)/\s.h 7050004=(aw,oW 85 4 M.aFD.en ak)/\s.h 7050005=(ax,oW 137 5 M.aFG.en al)/\s.h 7059000=(1,oB 182 [.old B0 (.sl (List.map enB p0.b)) (some u0),cI aa,cI ae]))/\fE p0 m v4 ay az ba bd aa ae af ah ai aj ak al=some r
 have e1:=@fE.eq_2
 exact sgX
theorem aCz (p0 r) (h:Bi p0=some r):Sc 125 [(false,[.ptr [.sl (List.map enB p0.b),.int .i64 p0.i,.int .i64 p0.h]])] [(false,[.edit (.lend 182 [.int .i64 r.1,.int .i64 r.2.1])]),(true,M.bV.rs r.2.2)]:=by
 unfold Bi at h
 simp only [EN]
 refine sgB 38 [.cell 2 37] Tryz.func125 λbase wd B0 u0 hw0 => ?_
 refine eY (J:=λs=>s.t 0=vP 7059000 1 0/\s.h 7059000=(1,oB 182 [.old B0 (.sl (List.map enB p0.b)) (some u0),cI p0.i,cI p0.h])/\True) ?_ ?_
 ·and_intros<;>(try simp only [LN,List.map_cons,List.map_nil])<;>rfl
 rintro s1 f2
 exact sgX
instance:bH 125 (type_of% @aCz):=⟨@aCz⟩
theorem c46 (p0 r) (h:Bm p0=some r):Sc 46 [(false,[.ptr [.sl (List.map enB p0.b),.int .i64 p0.i,.int .i64 p0.h]])] [(false,[.edit (.lend 182 [.int .i64 r.1,.int .i64 r.2.1])]),(true,M.aJ.rs r.2.2)]:=by
 unfold Bm at h
 simp only [EN]
 refine sgB 50 [.cell 2 49] Tryz.func46 λbase wd B0 u0 hw0 => ?_
 refine eY (J:=λs=>s.t 0=vP 7059000 1 0/\s.h 7059000=(1,oB 182 [.old B0 (.sl (List.map enB p0.b)) (some u0),cI p0.i,cI p0.h])/\True) ?_ ?_
 ·and_intros<;>(try simp only [LN,List.map_cons,List.map_nil])<;>rfl
 rintro s1 f2
 have i1:=λ(x4:(Int×Int×M.aJ)) (ae:(Int×Int×Int)) (aa:St)=>inv λm s=>∃r5:List Int,∃u5:Nat,(s.h 2000005=aa.h 2000005/\s.h 7059000=aa.h 7059000/\s.t 0=vP 7059000 1 0/\s.t 2=vP 2 ((s1.h 2).1+1) 0/\s.t 3=vP 3 ((s1.h 3).1+1) 0/\s.h 2=(((s1.h 2).1+1),OI)/\s.h 3=(((s1.h 3).1+1),oB 49 [cS x4.2.2.aFD,cS x4.2.2.Top,cS x4.2.2.aE4.aFD,cI x4.2.2.aE4.aFY,cI x4.2.2.aE4.aFg,cI x4.2.2.aE4.aFl,.row 700005 ((s1.h 700005).1+1),cS x4.2.2.bV.aFT.Name,cI x4.2.2.bV.aFT.aE3,.row 1000005 ((s1.h 1000005).1+1),.row 1100005 ((s1.h 1100005).1+1),.row 1200005 u5,cI x4.2.2.bV.aFk,cS x4.2.2.aG.aFT.Name,.row 1500005 ((s1.h 1500005).1+1),cI x4.2.2.aG.aFT.aFZ,cI x4.2.2.aG.aFq,cI x4.2.2.aG.aFS.aM.aFC,cI x4.2.2.aG.aFS.aM.aFd,.row 2000005 ((s1.h 2000005).1+1),cI x4.2.2.aG.aFS.aFi,cI x4.2.2.aG.aFS.aFX,cI x4.2.2.aFf,cB x4.2.2.aFc])/\s.h 700005=(((s1.h 700005).1+1),oW 193 2 M.aFE.en x4.2.2.aE6.aE6)/\s.h 1000005=(((s1.h 1000005).1+1),oW 40 3 M.aC.en x4.2.2.bV.aFT.aFH)/\s.h 1100005=(((s1.h 1100005).1+1),oW 282 2 M.aN.en x4.2.2.bV.aFT.aFQ)/\s.h 1200005=(u5,oW 5 1 enB r5)/\s.h 1500005=(((s1.h 1500005).1+1),oW 284 4 M.aFP.en x4.2.2.aG.aFT.aE7))/\nB x4 ae m r5=some r
 have e1:=@nB.eq_2
 exact sgX
instance:bH 46 (type_of% @c46):=⟨@c46⟩
theorem c45 (p0 r) (h:sL p0=some r):Sc 45 [(false,[.ptr [.sl (List.map enB p0.b),.int .i64 p0.i,.int .i64 p0.h]])] [(false,[.edit (.lend 182 [.int .i64 r.1,.int .i64 r.2.1])]),(true,M.aA.rs r.2.2)]:=by
 unfold sL at h
 simp only [EN]
 refine sgB 29 [.cell 2 26] Tryz.func45 λbase wd B0 u0 hw0 => ?_
 refine eY (J:=λs=>s.t 0=vP 7059000 1 0/\s.h 7059000=(1,oB 182 [.old B0 (.sl (List.map enB p0.b)) (some u0),cI p0.i,cI p0.h])/\True) ?_ ?_
 ·and_intros<;>(try simp only [LN,List.map_cons,List.map_nil])<;>rfl
 rintro s1 f2
 have i1:=DV [.b 3 0 7050000 49 24] λm s=>∃v4:Int,∃aa:Int,∃ae:Int,∃af:List M.aJ,∃ah:Nat,(s.t 0=vP 7059000 1 0/\s.t 2=vP 2 ((s1.h 2).1+1) 0/\s.t 3=vP 3 ((s1.h 3).1+1) 0/\s.t 4=vI v4/\s.h 2=(((s1.h 2).1+1),oB 26 [.nil])/\s.h 3=(((s1.h 3).1+1),oB 26 [.row 7050000 ah])/\s.h 7050000=(ah,oW 49 24 M.aJ.en af)/\s.h 7059000=(1,oB 182 [.old B0 (.sl (List.map enB p0.b)) (some u0),cI aa,cI ae]))/\jD p0 m v4 aa ae af=some r
 have e1:=@jD.eq_2
 exact sgX
theorem c98 (p0 r) (h:Bq p0=some r):Sc 98 [(false,[.ptr [.sl (List.map enB p0.b),.int .i64 p0.i,.int .i64 p0.h]])] [(false,[.edit (.lend 182 [.int .i64 r.1,.int .i64 r.2.1])]),(true,M.World.rs r.2.2)]:=by
 unfold Bq at h
 simp only [EN]
 refine sgB 13 [.cell 2 75] Tryz.func98 λbase wd B0 u0 hw0 => ?_
 refine eY (J:=λs=>s.t 0=vP 7059000 1 0/\s.h 7059000=(1,oB 182 [.old B0 (.sl (List.map enB p0.b)) (some u0),cI p0.i,cI p0.h])/\True) ?_ ?_
 ·and_intros<;>(try simp only [LN,List.map_cons,List.map_nil])<;>rfl
 rintro s1 f2
 refine sq ?_
 apply cW
 ·simp +decide only [LN,LI,E,reduceIte,Nat.reduceAdd,Nat.reduceMul,qB,qC,L,Ct,EN,f2];exact Is.mk _
 refine an (sq ?_)
 obtain ⟨x4,h5,h⟩:=bind_some h
 apply cW
 ·simp +decide only [LN,LI,E,reduceIte,Nat.reduceAdd,Nat.reduceMul,qB,qC,L,Ct,EN,f2]
  refine ⟨_,aEP _ _ h5,?_⟩
  try simp +decide only [LN,LI,E,reduceIte,Nat.reduceAdd,Nat.reduceMul,qB,qC,L,Ct,EN,f2]
  exact Is.mk _
 refine an (sq ?_)
 refine eY (J:=λs=>s.t 0=vP 7059000 1 0/\s.t 2=vP 2 ((s1.h 2).1+1) 0/\s.t 3=vP 3 ((s1.h 3).1+1) 0/\s.h 2=(((s1.h 2).1+1),Qy)/\s.h 3=(((s1.h 3).1+1),oB 75 [cI x4.2.2.Now,cB x4.2.2.aFW,cI x4.2.2.aFC,.row 400005 ((s1.h 400005).1+1),.row 500005 ((s1.h 500005).1+1),cI x4.2.2.aFJ,.row 700005 ((s1.h 700005).1+1),.row 800005 ((s1.h 800005).1+1),.row 900005 ((s1.h 900005).1+1),.row 1000005 ((s1.h 1000005).1+1)])/\s.h 400005=(((s1.h 400005).1+1),oW 49 24 M.aJ.en x4.2.2.aA.aE8)/\s.h 500005=(((s1.h 500005).1+1),oW 96 11 M.bC.en x4.2.2.aFF)/\s.h 700005=(((s1.h 700005).1+1),oW 154 4 M.mZ.en x4.2.2.aFM.aFM)/\s.h 800005=(((s1.h 800005).1+1),oW 157 3 M.tB.en x4.2.2.aFB.aFa)/\s.h 900005=(((s1.h 900005).1+1),oW 85 4 M.aFD.en x4.2.2.aFR)/\s.h 1000005=(((s1.h 1000005).1+1),oW 137 5 M.aFG.en x4.2.2.aFN)/\s.h 7059000=(1,oB 182 [.old B0 (.sl (List.map enB p0.b)) (some u0),cI x4.1,cI x4.2.1])/\True) ?_ ?_
 ·and_intros<;>(try simp +decide only [LN,LI,F,reduceIte,Nat.reduceAdd,qB,qC,EN,M.aJ.en,M.mZ.en,M.tB.en,M.bC.en,M.aFG.en,M.aFD.en,f2])
 rintro s6 f7
 obtain ⟨aa,ax,h⟩:=bind_some h
 apply cW
 ·simp +decide only [LN,LI,E,reduceIte,Nat.reduceAdd,Nat.reduceMul,qB,qC,L,ti4,Ct,EN, *,-h]
  refine ⟨_,c75 _ _ _ ax,?_⟩
  try simp +decide only [LN,LI,E,reduceIte,Nat.reduceAdd,Nat.reduceMul,qB,qC,L,ti4,Ct,EN, *,-h]
  exact Is.mk _
 refine an (sq ?_)
 refine eY (J:=λs=>s.t 0=vP 7059000 1 0/\s.t 2=vP 2 ((s1.h 2).1+1) 0/\s.t 3=vP 3 ((s1.h 3).1+1) 0/\s.h 2=(((s1.h 2).1+1),Qy)/\s.h 3=(((s1.h 3).1+1),oB 75 [cI x4.2.2.Now,cB (!aa.2.2),cI x4.2.2.aFC,.row 400005 ((s1.h 400005).1+1),.row 500005 ((s1.h 500005).1+1),cI x4.2.2.aFJ,.row 700005 ((s1.h 700005).1+1),.row 800005 ((s1.h 800005).1+1),.row 900005 ((s1.h 900005).1+1),.row 1000005 ((s1.h 1000005).1+1)])/\s.h 400005=(((s1.h 400005).1+1),oW 49 24 M.aJ.en x4.2.2.aA.aE8)/\s.h 500005=(((s1.h 500005).1+1),oW 96 11 M.bC.en x4.2.2.aFF)/\s.h 700005=(((s1.h 700005).1+1),oW 154 4 M.mZ.en x4.2.2.aFM.aFM)/\s.h 800005=(((s1.h 800005).1+1),oW 157 3 M.tB.en x4.2.2.aFB.aFa)/\s.h 900005=(((s1.h 900005).1+1),oW 85 4 M.aFD.en x4.2.2.aFR)/\s.h 1000005=(((s1.h 1000005).1+1),oW 137 5 M.aFG.en x4.2.2.aFN)/\s.h 7059000=(1,oB 182 [.old B0 (.sl (List.map enB p0.b)) (some u0),cI aa.1,cI aa.2.1])/\True) ?_ ?_
 ·and_intros<;>(try simp +decide only [LN,LI,F,reduceIte,Nat.reduceAdd,qB,qC,EN,M.aJ.en,M.mZ.en,M.tB.en,M.bC.en,M.aFG.en,M.aFD.en, *,-h])
 rintro bn f22
 apply RT (n:=2) (f:=78) (d:=12) (N':=47) (vars:=[.cell 4 75]) rfl rfl rfl rfl qe Tryz.func78 rfl rfl rfl qf qe
 ·simp +decide only [LN,LI,E,reduceIte,Nat.reduceAdd,Nat.reduceMul,qB,qC,L,Ct,EN, *,-h];exact Is.mk _
 intro fv
 refine eY (J:=λs=>s.t 0=vP 7059000 1 0/\s.t 1 = .v true [.dat (.int .i64 x4.2.2.Now),.dat (.bool (!aa.2.2)),.dat (.int .i64 x4.2.2.aFC),.row 400005 ((s1.h 400005).1+1),.row 500005 ((s1.h 500005).1+1),.dat (.int .i64 x4.2.2.aFJ),.row 700005 ((s1.h 700005).1+1),.row 800005 ((s1.h 800005).1+1),.row 900005 ((s1.h 900005).1+1),.row 1000005 ((s1.h 1000005).1+1)]/\s.fr 0=vP 7059000 1 0/\s.fr 2=vP 2 ((s1.h 2).1+1) 0/\s.h 2=(((s1.h 2).1+1),Qy)/\s.h 400005=(((s1.h 400005).1+1),oW 49 24 M.aJ.en x4.2.2.aA.aE8)/\s.h 500005=(((s1.h 500005).1+1),oW 96 11 M.bC.en x4.2.2.aFF)/\s.h 700005=(((s1.h 700005).1+1),oW 154 4 M.mZ.en x4.2.2.aFM.aFM)/\s.h 800005=(((s1.h 800005).1+1),oW 157 3 M.tB.en x4.2.2.aFB.aFa)/\s.h 900005=(((s1.h 900005).1+1),oW 85 4 M.aFD.en x4.2.2.aFR)/\s.h 1000005=(((s1.h 1000005).1+1),oW 137 5 M.aFG.en x4.2.2.aFN)/\s.h 7059000=(1,oB 182 [.old B0 (.sl (List.map enB p0.b)) (some u0),cI aa.1,cI aa.2.1])/\True) ?_ ?_
 ·and_intros<;>(try first | (simp +decide only [LN,LI,F,reduceIte,Nat.reduceAdd,qB,qC,EN,M.aJ.en,M.mZ.en,M.tB.en,M.bC.en,M.aFG.en,M.aFD.en, *,-h];done) | (simp +decide only [LN,LI,F,reduceIte,Nat.reduceAdd,qB,qC,EN,M.aJ.en,M.mZ.en,M.tB.en,M.bC.en,M.aFG.en,M.aFD.en, *,-h];rfl) | rfl)
 rintro aq f35
 refine sq ?_
 apply cW
 ·simp +decide only [LN,LI,E,reduceIte,Nat.reduceAdd,Nat.reduceMul,qB,qC,L,Ct,EN, *,-h];exact Is.mk _
 refine an (sq (sq ?_))
 obtain ⟨af,ay,h⟩:=bind_some h
 apply cW
 ·simp +decide only [LN,LI,E,reduceIte,Nat.reduceAdd,Nat.reduceMul,qB,qC,L,EN, *,-h]
  refine ⟨_,c65 _ _ _ ay,?_⟩
  try simp +decide only [LN,LI,E,reduceIte,Nat.reduceAdd,Nat.reduceMul,qB,qC,L,EN, *,-h]
  exact Is.mk _
 refine an (bk (sq ?_))
 refine eY (J:=λs=>s.t 0=vP 7059000 1 0/\s.t 3=vP 3 ((aq.h 3).1+1) 0/\s.t 4=vP 4 ((aq.h 4).1+1) 0/\s.t 6=vI af.2.2/\s.fr 0=vP 7059000 1 0/\s.fr 2=vP 2 ((s1.h 2).1+1) 0/\s.h 2=(((s1.h 2).1+1),Qy)/\s.h 3=(((aq.h 3).1+1),oB 75 [cI x4.2.2.Now,cB (!aa.2.2),cI x4.2.2.aFC,.row 400005 ((s1.h 400005).1+1),.row 500005 ((s1.h 500005).1+1),cI x4.2.2.aFJ,.row 700005 ((s1.h 700005).1+1),.row 800005 ((s1.h 800005).1+1),.row 900005 ((s1.h 900005).1+1),.row 1000005 ((s1.h 1000005).1+1)])/\s.h 4=(((aq.h 4).1+1),Qy)/\s.h 400005=(((s1.h 400005).1+1),oW 49 24 M.aJ.en x4.2.2.aA.aE8)/\s.h 500005=(((s1.h 500005).1+1),oW 96 11 M.bC.en x4.2.2.aFF)/\s.h 700005=(((s1.h 700005).1+1),oW 154 4 M.mZ.en x4.2.2.aFM.aFM)/\s.h 800005=(((s1.h 800005).1+1),oW 157 3 M.tB.en x4.2.2.aFB.aFa)/\s.h 900005=(((s1.h 900005).1+1),oW 85 4 M.aFD.en x4.2.2.aFR)/\s.h 1000005=(((s1.h 1000005).1+1),oW 137 5 M.aFG.en x4.2.2.aFN)/\s.h 7059000=(1,oB 182 [.old B0 (.sl (List.map enB p0.b)) (some u0),cI af.1,cI af.2.1])/\True) ?_ ?_
 ·and_intros<;>(try simp +decide only [LN,LI,F,reduceIte,Nat.reduceAdd,qB,qC,EN,M.aJ.en,M.mZ.en,M.tB.en,M.bC.en,M.aFG.en,M.aFD.en, *,-h])
 rintro aw f50
 apply cW
 ·simp +decide only [LN,LI,E,reduceIte,Nat.reduceAdd,Nat.reduceMul,qB,qC,L,EN, *,-h];exact Is.mk _
 refine an ?_
 rcases nX (af.2.2==0) with ae | ae
 ·replace h:=cN ae h
  refine D0 (by simp +decide only [LN,LI,F,reduceIte,Nat.reduceAdd,qB,qC,EN, *,-h]) ?_
  obtain ⟨az,ba,h⟩:=bind_some h
  apply cW
  ·simp +decide only [LN,LI,E,reduceIte,Nat.reduceAdd,Nat.reduceMul,qB,qC,L,ti3,Ct,Yb,enI,EN, *,-h]
   have hc:=c69 _ _ _ ba
   simp only [List.map_append,List.map_cons,List.map_nil,enI] at hc
   refine ⟨_,hc,?_⟩
   try simp +decide only [LN,LI,E,reduceIte,Nat.reduceAdd,Nat.reduceMul,qB,qC,L,ti3,Ct,Yb,enI,EN, *,-h]
   exact Is.mk _
  refine ab (an (sq ?_))
  apply cW
  ·simp +decide only [LN,LI,E,reduceIte,Nat.reduceAdd,Nat.reduceMul,qB,qC,L,Ct,EN, *,-h];exact Is.mk _
  refine an (rt ?_)
  apply RO.mk (l:=[(true,[.dat (.int .i64 az.2.2),.dat (.bool (!aa.2.2)),.dat (.int .i64 x4.2.2.aFC),.row 400005 ((s1.h 400005).1+1),.row 500005 ((s1.h 500005).1+1),.dat (.int .i64 x4.2.2.aFJ),.row 700005 ((s1.h 700005).1+1),.row 800005 ((s1.h 800005).1+1),.row 900005 ((s1.h 900005).1+1),.row 1000005 ((s1.h 1000005).1+1)])]) (by simp [LN,LI,Ct,EN,f50,ae])
  ·simp +decide only [Kl,LN,LI,E,reduceIte,Nat.reduceAdd,Nat.reduceMul,qB,qC,L,Ct,EN, *,-h];exact Is.mk _
  refine an (rt ?_)
  cases h
  simp [HQ,Ret,LN,LI,TB,EN, *]
 replace h:=cM ae h
 refine Ff (by simp +decide only [LN,LI,F,reduceIte,Nat.reduceAdd,qB,qC,EN, *,-h]) ?_
 refine sq ?_
 apply cW
 ·simp +decide only [LN,LI,E,reduceIte,Nat.reduceAdd,Nat.reduceMul,qB,qC,L,EN, *,-h];exact Is.mk _
 refine an ?_
 rcases nX (af.2.2==1) with ah | ah
 ·replace h:=cN ah h;refine D0 (by simp +decide only [LN,LI,F,reduceIte,Nat.reduceAdd,qB,qC,EN, *,-h]) ?_;apply cW;(simp +decide only [LN,LI,E,reduceIte,Nat.reduceAdd,Nat.reduceMul,qB,qC,L,ti3,Ct,EN, *,-h];exact Is.mk _);refine ab (an (sq ?_));apply cW;(simp +decide only [LN,LI,E,reduceIte,Nat.reduceAdd,Nat.reduceMul,qB,qC,L,Ct,EN, *,-h];exact Is.mk _);refine an (rt ?_);apply RO.mk (l:=[(true,[.dat (.int .i64 x4.2.2.Now),.dat (.bool (!aa.2.2)),.dat (.int .i64 0),.row 400005 ((s1.h 400005).1+1),.row 500005 ((s1.h 500005).1+1),.dat (.int .i64 x4.2.2.aFJ),.row 700005 ((s1.h 700005).1+1),.row 800005 ((s1.h 800005).1+1),.row 900005 ((s1.h 900005).1+1),.row 1000005 ((s1.h 1000005).1+1)])]) (by simp [LN,LI,Ct,EN,f50,ae,ah]);(simp +decide only [Kl,LN,LI,E,reduceIte,Nat.reduceAdd,Nat.reduceMul,qB,qC,L,Ct,EN, *,-h];exact Is.mk _);refine an (rt ?_);cases h;simp [HQ,Ret,LN,LI,TB,EN, *]
 replace h:=cM ah h
 refine Ff (by simp +decide only [LN,LI,F,reduceIte,Nat.reduceAdd,qB,qC,EN, *,-h]) ?_
 refine sq ?_
 apply cW
 ·simp +decide only [LN,LI,E,reduceIte,Nat.reduceAdd,Nat.reduceMul,qB,qC,L,EN, *,-h];exact Is.mk _
 refine an ?_
 rcases nX (af.2.2==2) with ai | ai
 ·replace h:=cN ai h
  refine D0 (by simp +decide only [LN,LI,F,reduceIte,Nat.reduceAdd,qB,qC,EN, *,-h]) ?_
  obtain ⟨bo,ar,h⟩:=bind_some h
  apply cW
  ·simp +decide only [LN,LI,E,reduceIte,Nat.reduceAdd,Nat.reduceMul,qB,qC,<-List.map_take,<-List.map_drop,L,Zc,Ct,Zw,M.aFD.en,EN, *,-h]
   refine ⟨by first | exact rV ar | exact (rV ar).2 | exact (rV ar).2.2,?_⟩
   try simp +decide only [LN,LI,E,reduceIte,Nat.reduceAdd,Nat.reduceMul,qB,qC,<-List.map_take,<-List.map_drop,L,Zc,Ct,Zw,M.aFD.en,EN, *,-h]
   exact Is.mk _
  refine ab (an (sq ?_))
  apply cW
  ·simp +decide only [LN,LI,E,reduceIte,Nat.reduceAdd,Nat.reduceMul,qB,qC,L,Ct,EN, *,-h];exact Is.mk _
  refine an (rt ?_)
  apply RO.mk (l:=[(true,[.dat (.int .i64 x4.2.2.Now),.dat (.bool (!aa.2.2)),.dat (.int .i64 x4.2.2.aFC),.row 400005 ((s1.h 400005).1+1),.row 500005 ((s1.h 500005).1+1),.dat (.int .i64 x4.2.2.aFJ),.row 700005 ((s1.h 700005).1+1),.row 800005 ((s1.h 800005).1+1),.part 900005 ((s1.h 900005).1+1) 0 (2:Int).toNat,.row 1000005 ((s1.h 1000005).1+1)])]) (by simp [LN,LI,Ct,EN,f50,ae,ah,ai])
  ·simp +decide only [Kl,LN,LI,E,reduceIte,Nat.reduceAdd,Nat.reduceMul,qB,qC,L,Ct,EN, *,-h];exact Is.mk _
  refine an ?_
  refine Hf (Gho.XT (b:=2) (vb:=((s1.h 2).1+1)) (t:=75) (cells:=[.dat (.int .i64 x4.2.2.Now),.dat (.bool (!aa.2.2)),.dat (.int .i64 x4.2.2.aFC),.row 400005 ((s1.h 400005).1+1),.row 500005 ((s1.h 500005).1+1),.dat (.int .i64 x4.2.2.aFJ),.row 700005 ((s1.h 700005).1+1),.row 800005 ((s1.h 800005).1+1),.part 900005 ((s1.h 900005).1+1) 0 (2:Int).toNat,.row 1000005 ((s1.h 1000005).1+1)]) (c:=8) (j:=900005) (vj:=((s1.h 900005).1+1)) (K:=900005) (n:=(2:Int).toNat) (e:=85) (sz:=4) (dp:=true) (xs:=(List.map M.aFD.en x4.2.2.aFR)) (List.map M.aFD.en (List.take (2:Int).toNat x4.2.2.aFR)) (by first | (simp +decide only [LN,LI,F,reduceIte,Nat.reduceAdd,qB,qC,EN,M.aFD.en, *,-h];done) | (simp +decide only [LN,LI,F,reduceIte,Nat.reduceAdd,qB,qC,EN,M.aFD.en, *,-h];rfl) | rfl) rfl (by first | (simp +decide only [LN,LI,F,reduceIte,Nat.reduceAdd,qB,qC,EN,M.aFD.en, *,-h];done) | (simp +decide only [LN,LI,F,reduceIte,Nat.reduceAdd,qB,qC,EN,M.aFD.en, *,-h];rfl) | rfl) qe (by rw [List.length_map];exact (rV ar).2) (by rw [List.map_take])) ?_
  refine eY (J:=λs=>s.h 7059000=aw.h 7059000/\s.t 0=vP 7059000 1 0/\s.t 2=vP 2 ((s1.h 2).1+1) 0/\s.h 2=(((s1.h 2).1+1),oB 75 [cI x4.2.2.Now,cB (!aa.2.2),cI x4.2.2.aFC,.row 400005 ((s1.h 400005).1+1),.row 500005 ((s1.h 500005).1+1),cI x4.2.2.aFJ,.row 700005 ((s1.h 700005).1+1),.row 800005 ((s1.h 800005).1+1),.row 900005 (((s1.h 900005).1+1)+1),.row 1000005 ((s1.h 1000005).1+1)])/\s.h 400005=(((s1.h 400005).1+1),oW 49 24 M.aJ.en x4.2.2.aA.aE8)/\s.h 500005=(((s1.h 500005).1+1),oW 96 11 M.bC.en x4.2.2.aFF)/\s.h 700005=(((s1.h 700005).1+1),oW 154 4 M.mZ.en x4.2.2.aFM.aFM)/\s.h 800005=(((s1.h 800005).1+1),oW 157 3 M.tB.en x4.2.2.aFB.aFa)/\s.h 900005=((((s1.h 900005).1+1)+1),oW 85 4 M.aFD.en (List.take (2:Int).toNat x4.2.2.aFR))/\s.h 1000005=(((s1.h 1000005).1+1),oW 137 5 M.aFG.en x4.2.2.aFN)/\True) ?_ ?_
  ·and_intros<;>(try simp +decide only [LN,LI,F,reduceIte,Nat.reduceAdd,qB,qC,EN,M.aJ.en,M.mZ.en,M.tB.en,M.bC.en,M.aFG.en,M.aFD.en, *,-h])
  rintro bq ⟨f83,f74⟩
  replace f83:=f83.trans f50.2.2.2.2.2.2.2.2.2.2.2.2.2.2.2.1
  refine rt ?_
  cases h
  simp [HQ,Ret,LN,LI,TB,EN, *]
 replace h:=cM ai h
 refine Ff (by simp +decide only [LN,LI,F,reduceIte,Nat.reduceAdd,qB,qC,EN, *,-h]) ?_
 refine sq ?_
 apply cW
 ·simp +decide only [LN,LI,E,reduceIte,Nat.reduceAdd,Nat.reduceMul,qB,qC,L,EN, *,-h];exact Is.mk _
 refine an ?_
 rcases nX (af.2.2==3) with aj | aj
 ·replace h:=cN aj h
  refine D0 (by simp +decide only [LN,LI,F,reduceIte,Nat.reduceAdd,qB,qC,EN, *,-h]) ?_
  obtain ⟨br,bd,h⟩:=bind_some h
  apply cW
  ·simp +decide only [LN,LI,E,reduceIte,Nat.reduceAdd,Nat.reduceMul,qB,qC,L,ZZ,Ct,EN, *,-h]
   refine ⟨_,c45 _ _ bd,?_⟩
   try simp +decide only [LN,LI,E,reduceIte,Nat.reduceAdd,Nat.reduceMul,qB,qC,L,ZZ,Ct,EN, *,-h]
   exact Is.mk _
  refine ab (an (sq ?_))
  apply cW
  ·simp +decide only [LN,LI,E,reduceIte,Nat.reduceAdd,Nat.reduceMul,qB,qC,L,Ct,EN, *,-h];exact Is.mk _
  refine an (rt ?_)
  apply RO.mk (l:=[(true,[.dat (.int .i64 x4.2.2.Now),.dat (.bool (!aa.2.2)),.dat (.int .i64 x4.2.2.aFC),.row 100025 ((aw.h 100025).1+1),.row 500005 ((s1.h 500005).1+1),.dat (.int .i64 x4.2.2.aFJ),.row 700005 ((s1.h 700005).1+1),.row 800005 ((s1.h 800005).1+1),.row 900005 ((s1.h 900005).1+1),.row 1000005 ((s1.h 1000005).1+1)])]) (by simp [LN,LI,Ct,EN,f50,ae,ah,ai,aj])
  ·simp +decide only [Kl,LN,LI,E,reduceIte,Nat.reduceAdd,Nat.reduceMul,qB,qC,L,Ct,EN, *,-h];exact Is.mk _
  refine an (rt ?_)
  cases h
  simp [HQ,Ret,LN,LI,TB,EN, *]
 replace h:=cM aj h
 refine Ff (by simp +decide only [LN,LI,F,reduceIte,Nat.reduceAdd,qB,qC,EN, *,-h]) ?_
 refine sq ?_
 apply cW
 ·simp +decide only [LN,LI,E,reduceIte,Nat.reduceAdd,Nat.reduceMul,qB,qC,L,EN, *,-h];exact Is.mk _
 refine an ?_
 rcases nX (af.2.2==4) with ak | ak
 ·replace h:=cN ak h
  refine D0 (by simp +decide only [LN,LI,F,reduceIte,Nat.reduceAdd,qB,qC,EN, *,-h]) ?_
  obtain ⟨bt,bf,h⟩:=bind_some h
  obtain ⟨bu,bg,h⟩:=bind_some h
  apply By mixed
  ·simp +decide only [LN,LI,E,reduceIte,Nat.reduceAdd,Nat.reduceMul,qB,qC,L,Wa,Ct,Wf,M.bC.en,EN, *,-h]
   refine ⟨_,aEG _ _ bf,?_⟩
   try simp +decide only [LN,LI,E,reduceIte,Nat.reduceAdd,Nat.reduceMul,qB,qC,L,Wa,Ct,Wf,M.bC.en,EN, *,-h]
   refine ⟨by (have hb:=gF bg);simp [M.bC.en,qE,aP] at hb ⊢ <;> omega,?_⟩
   try simp +decide only [LN,LI,E,reduceIte,Nat.reduceAdd,Nat.reduceMul,qB,qC,L,Wa,Ct,Wf,M.bC.en,EN, *,-h]
   exact ⟨.mk qf,Is.mk _⟩
  refine ab (an (sq ?_))
  apply cW
  ·simp +decide only [LN,LI,E,reduceIte,Nat.reduceAdd,Nat.reduceMul,qB,qC,L,Ct,EN, *,-h];exact Is.mk _
  refine an (rt ?_)
  apply RO.mk (l:=[(true,[.dat (.int .i64 x4.2.2.Now),.dat (.bool (!aa.2.2)),.dat (.int .i64 x4.2.2.aFC),.row 400005 ((s1.h 400005).1+1),.row 500005 (((s1.h 500005).1+1)+1),.dat (.int .i64 x4.2.2.aFJ),.row 700005 ((s1.h 700005).1+1),.row 800005 ((s1.h 800005).1+1),.row 900005 ((s1.h 900005).1+1),.row 1000005 ((s1.h 1000005).1+1)])]) (by simp [LN,LI,Ct,EN,f50,ae,ah,ai,aj,ak])
  ·simp +decide only [Kl,LN,LI,E,reduceIte,Nat.reduceAdd,Nat.reduceMul,qB,qC,L,Ct,EN, *,-h];exact Is.mk _
  refine an (rt ?_)
  cases h
  simp [HQ,Ret,LN,LI,TB,EN, *]
 replace h:=cM ak h
 refine Ff (by simp +decide only [LN,LI,F,reduceIte,Nat.reduceAdd,qB,qC,EN, *,-h]) ?_
 refine sq ?_
 apply cW
 ·simp +decide only [LN,LI,E,reduceIte,Nat.reduceAdd,Nat.reduceMul,qB,qC,L,EN, *,-h];exact Is.mk _
 refine an ?_
 rcases nX (af.2.2==5) with al | al
 ·replace h:=cN al h;refine D0 (by simp +decide only [LN,LI,F,reduceIte,Nat.reduceAdd,qB,qC,EN, *,-h]) ?_;apply cW;(simp +decide only [LN,LI,E,reduceIte,Nat.reduceAdd,Nat.reduceMul,qB,qC,L,ti3,Ct,EN, *,-h];exact Is.mk _);refine ab (an (sq ?_));apply cW;(simp +decide only [LN,LI,E,reduceIte,Nat.reduceAdd,Nat.reduceMul,qB,qC,L,Ct,EN, *,-h];exact Is.mk _);refine an (rt ?_);apply RO.mk (l:=[(true,[.dat (.int .i64 x4.2.2.Now),.dat (.bool (!aa.2.2)),.dat (.int .i64 x4.2.2.aFC),.row 400005 ((s1.h 400005).1+1),.row 500005 ((s1.h 500005).1+1),.dat (.int .i64 0),.row 700005 ((s1.h 700005).1+1),.row 800005 ((s1.h 800005).1+1),.row 900005 ((s1.h 900005).1+1),.row 1000005 ((s1.h 1000005).1+1)])]) (by simp [LN,LI,Ct,EN,f50,ae,ah,ai,aj,ak,al]);(simp +decide only [Kl,LN,LI,E,reduceIte,Nat.reduceAdd,Nat.reduceMul,qB,qC,L,Ct,EN, *,-h];exact Is.mk _);refine an (rt ?_);cases h;simp [HQ,Ret,LN,LI,TB,EN, *]
 replace h:=cM al h
 refine Ff (by simp +decide only [LN,LI,F,reduceIte,Nat.reduceAdd,qB,qC,EN, *,-h]) ?_
 refine sq ?_
 apply cW
 ·simp +decide only [LN,LI,E,reduceIte,Nat.reduceAdd,Nat.reduceMul,qB,qC,L,EN, *,-h];exact Is.mk _
 refine an ?_
 rcases Cf (af.2.2==6) with ao | ao
 ·replace h:=cM ao h;refine Ff (by simp +decide only [LN,LI,F,reduceIte,Nat.reduceAdd,qB,qC,EN, *,-h]) ?_;refine sk (ab (an (sq ?_)));apply cW;(simp +decide only [LN,LI,E,reduceIte,Nat.reduceAdd,Nat.reduceMul,qB,qC,L,Ct,EN, *,-h];exact Is.mk _);refine an (rt ?_);apply RO.mk (l:=[(true,[.dat (.int .i64 x4.2.2.Now),.dat (.bool (!aa.2.2)),.dat (.int .i64 x4.2.2.aFC),.row 400005 ((s1.h 400005).1+1),.row 500005 ((s1.h 500005).1+1),.dat (.int .i64 x4.2.2.aFJ),.row 700005 ((s1.h 700005).1+1),.row 800005 ((s1.h 800005).1+1),.row 900005 ((s1.h 900005).1+1),.row 1000005 ((s1.h 1000005).1+1)])]) (by simp [LN,LI,Ct,EN,f50,ae,ah,ai,aj,ak,al,ao]);(simp +decide only [Kl,LN,LI,E,reduceIte,Nat.reduceAdd,Nat.reduceMul,qB,qC,L,Ct,EN, *,-h];exact Is.mk _);refine an (rt ?_);cases h;simp [HQ,Ret,LN,LI,TB,EN, *]
 replace h:=cN ao h
 refine D0 (by simp +decide only [LN,LI,F,reduceIte,Nat.reduceAdd,qB,qC,EN, *,-h]) ?_
 obtain ⟨bw,bh,h⟩:=bind_some h
 obtain ⟨bx,bj,h⟩:=bind_some h
 obtain ⟨bl,bm,av⟩:=tL bj
 apply By mixed
 ·simp +decide only [LN,LI,E,reduceIte,Nat.reduceAdd,Nat.reduceMul,qB,qC,L,Zf,Ct,Xw,M.aFG.en,EN, *,-h]
  refine ⟨_,aEw _ _ bh,?_⟩
  try simp +decide only [LN,LI,E,reduceIte,Nat.reduceAdd,Nat.reduceMul,qB,qC,L,Zf,Ct,Xw,M.aFG.en,EN, *,-h]
  exact ⟨.mk qf,Is.mk _⟩
 refine ab (an (sq ?_))
 apply cW
 ·simp +decide only [LN,LI,E,reduceIte,Nat.reduceAdd,Nat.reduceMul,qB,qC,L,Ct,EN, *,-h];exact Is.mk _
 refine an (rt ?_)
 apply RO.mk (l:=[(true,[.dat (.int .i64 x4.2.2.Now),.dat (.bool (!aa.2.2)),.dat (.int .i64 x4.2.2.aFC),.row 400005 ((s1.h 400005).1+1),.row 500005 ((s1.h 500005).1+1),.dat (.int .i64 x4.2.2.aFJ),.row 700005 ((s1.h 700005).1+1),.row 800005 ((s1.h 800005).1+1),.row 900005 ((s1.h 900005).1+1),.row 1000005 ((s1.h 1000005).1+1)])]) (by simp [LN,LI,Ct,EN,f50,ae,ah,ai,aj,ak,al,ao,bl,bm,av])
 ·simp +decide only [Kl,LN,LI,E,reduceIte,Nat.reduceAdd,Nat.reduceMul,qB,qC,L,Ct,EN, *,-h];exact Is.mk _
 refine an (rt ?_)
 cases h
 simp [HQ,Ret,LN,LI,TB,EN, *]
instance:bH 98 (type_of% @c98):=⟨@c98⟩
theorem c30 (p0 r) (h:mE p0=some r):Sc 30 [aL enB p0] [(true,M.World.rs r.1),rI r.2.1,rS r.2.2]:=by unfold mE at h;exact sgo 38 [.cell 2 75,.tmp 3,.tmp 4] Tryz.func30
end Go.Proofs.YtipmihbgjolaaaaGreat.gen
