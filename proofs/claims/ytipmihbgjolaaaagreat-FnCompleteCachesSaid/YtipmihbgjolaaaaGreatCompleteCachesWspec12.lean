/-
  Helper text. No conditions.
-/
import Derived.Test.YtipmihbgjolaaaaGreatCompleteCachesTi
import Derived.Test.YtipmihbgjolaaaaGreatCompleteCachesWspec10
import Derived.Test.YtipmihbgjolaaaaGreatCompleteCachesWspec11
import Derived.Test.YtipmihbgjolaaaaGreatCompleteCachesWspec2
import Derived.Test.YtipmihbgjolaaaaGreatCompleteCachesWspec3
import Derived.Test.YtipmihbgjolaaaaGreatCompleteCachesWspec5
import Derived.Test.YtipmihbgjolaaaaGreatCompleteCachesWspec7
import Derived.Test.YtipmihbgjolaaaaGreatCompleteCachesWspec8
import Derived.Test.YtipmihbgjolaaaaGreatCompleteCachesWspec9
set_option linter.unusedVariables false
set_option linter.unusedSimpArgs false
namespace Go.Proofs.YtipmihbgjolaaaaGreat.gen
open Go Go.Sh
set_option maxRecDepth 20000
set_option maxHeartbeats 4000000
theorem aEf (p0 p1 r) (h:Bc p0 p1=some r):Sc 276 [(false,[.ptr [.sl (List.map enB p0.b),.int .i64 p0.i,.int .i64 p0.h]]),aX (M.World.en p1)] [(false,[.edit (.lend 182 [.int .i64 r.1,.int .i64 r.2.1])]),(true,M.World.rs r.2.2)]:=by
 unfold Bc at h
 simp only [EN]
 refine sgB 64 [.cell 4 75] Tryz.func276 λbase wd B0 u0 hw0 => ?_
 refine eA (J:=λs=>s.t 0=vP 7059000 1 0/\s.t 1 = .v true [.dat (.int .i64 p1.Now),.dat (.bool p1.aHA),.dat (.int .i64 p1.aGp),.dat (.sl (List.map M.aG.en p1.aA.aGj)),.dat (.sl (List.map M.bJ.en p1.aGx)),.dat (.int .i64 p1.aGv),.dat (.sl (List.map M.nW.en p1.aGy.aGy)),.dat (.sl (List.map M.Bk.en p1.aGt.aHN)),.dat (.sl (List.map M.aGl.en p1.aG2)),.dat (.sl (List.map M.aGr.en p1.aGz))]/\s.h 7059000=(1,oB 182 [.old B0 (.sl (List.map enB p0.b)) (some u0),cI p0.i,cI p0.h])/\True) ?_ ?_
 ·and_intros<;>(try simp only [LN,List.map_cons,List.map_nil])<;>rfl
 rintro s1 f2
 exact sgX
instance:bF 276 (type_of% @aEf):=⟨@aEf⟩
theorem aGA (p0 r) (h:Al p0=some r):Sc 203 [(false,[.ptr [.sl (List.map enB p0.b),.int .i64 p0.i,.int .i64 p0.h]])] [(false,[.edit (.lend 182 [.int .i64 r.1,.int .i64 r.2.1])]),(true,M.World.rs r.2.2)]:=by
 unfold Al at h
 simp only [EN]
 refine sgB 17 [.cell 2 75] Tryz.func203 λbase wd B0 u0 hw0 => ?_
 refine eA (J:=λs=>s.t 0=vP 7059000 1 0/\s.h 7059000=(1,oB 182 [.old B0 (.sl (List.map enB p0.b)) (some u0),cI p0.i,cI p0.h])/\True) ?_ ?_
 ·and_intros<;>(try simp only [LN,List.map_cons,List.map_nil])<;>rfl
 rintro s1 f2
 have i1:=D5 [.b 3 3 7050000 49 24,.b 3 4 7050001 96 11,.b 3 6 7050002 154 4,.b 3 7 7050003 157 3,.b 3 8 7050004 85 4,.b 3 9 7050005 137 5] λm s=>∃v4:Int,∃ay:Int,∃az:Bool,∃ba:Int,∃bd:Int,∃aa:Int,∃ae:Int,∃af:List M.aG,∃ah:List M.bJ,∃ai:List M.nW,∃aj:List M.Bk,∃ak:List M.aGl,∃al:List M.aGr,∃ao:Nat,∃aq:Nat,∃ar:Nat,∃av:Nat,∃aw:Nat,∃ax:Nat,(s.t 0=vP 7059000 1 0/\s.t 2=vP 2 ((s1.h 2).1+1) 0/\s.t 3=vP 3 ((s1.h 3).1+1) 0/\s.t 4=vI v4/\s.h 2=(((s1.h 2).1+1),Qh)/\s.h 3=(((s1.h 3).1+1),oB 75 [cI ay,cB az,cI ba,.row 7050000 ao,.row 7050001 aq,cI bd,.row 7050002 ar,.row 7050003 av,.row 7050004 aw,.row 7050005 ax])/\s.h 7050000=(ao,oW 49 24 M.aG.en af)/\s.h 7050001=(aq,oW 96 11 M.bJ.en ah)/\s.h 7050002=(ar,oW 154 4 M.nW.en ai)/\s.h 7050003=(av,oW 157 3 M.Bk.en aj)/\s.h 7050004=(aw,oW 85 4 M.aGl.en ak)/\s.h 7050005=(ax,oW 137 5 M.aGr.en al)/\s.h 7059000=(1,oB 182 [.old B0 (.sl (List.map enB p0.b)) (some u0),cI aa,cI ae]))/\pZ p0 m v4 ay az ba bd aa ae af ah ai aj ak al=some r
 have e1:=@pZ.eq_2
 exact sgX
theorem c46 (p0 r) (h:BQ p0=some r):Sc 46 [(false,[.ptr [.sl (List.map enB p0.b),.int .i64 p0.i,.int .i64 p0.h]])] [(false,[.edit (.lend 182 [.int .i64 r.1,.int .i64 r.2.1])]),(true,M.aG.rs r.2.2)]:=by
 unfold BQ at h
 simp only [EN]
 refine sgB 50 [.cell 2 49] Tryz.func46 λbase wd B0 u0 hw0 => ?_
 refine eA (J:=λs=>s.t 0=vP 7059000 1 0/\s.h 7059000=(1,oB 182 [.old B0 (.sl (List.map enB p0.b)) (some u0),cI p0.i,cI p0.h])/\True) ?_ ?_
 ·and_intros<;>(try simp only [LN,List.map_cons,List.map_nil])<;>rfl
 rintro s1 f2
 have i1:=λ(x4:(Int×Int×M.aG)) (ae:(Int×Int×Int)) (aa:St)=>inv λm s=>∃r5:List Int,∃u5:Nat,(s.h 2000005=aa.h 2000005/\s.h 7059000=aa.h 7059000/\s.t 0=vP 7059000 1 0/\s.t 2=vP 2 ((s1.h 2).1+1) 0/\s.t 3=vP 3 ((s1.h 3).1+1) 0/\s.h 2=(((s1.h 2).1+1),Pz)/\s.h 3=(((s1.h 3).1+1),oB 49 [cS x4.2.2.aGl,cS x4.2.2.Top,cS x4.2.2.aGf.aGl,cI x4.2.2.aGf.aG6,cI x4.2.2.aGf.aHC,cI x4.2.2.aGf.aHF,.row 700005 ((s1.h 700005).1+1),cS x4.2.2.bW.aG4.Name,cI x4.2.2.bW.aG4.aGg,.row 1000005 ((s1.h 1000005).1+1),.row 1100005 ((s1.h 1100005).1+1),.row 1200005 u5,cI x4.2.2.bW.aHM,cS x4.2.2.aH.aG4.Name,.row 1500005 ((s1.h 1500005).1+1),cI x4.2.2.aH.aG4.aHD,cI x4.2.2.aH.aHS,cI x4.2.2.aH.aG5.aM.aGp,cI x4.2.2.aH.aG5.aM.aHH,.row 2000005 ((s1.h 2000005).1+1),cI x4.2.2.aH.aG5.aHL,cI x4.2.2.aH.aG5.aHB,cI x4.2.2.aHI,cB x4.2.2.aHE])/\s.h 700005=(((s1.h 700005).1+1),oW 193 2 M.aGo.en x4.2.2.aGi.aGi)/\s.h 1000005=(((s1.h 1000005).1+1),oW 40 3 M.aD.en x4.2.2.bW.aG4.aGq)/\s.h 1100005=(((s1.h 1100005).1+1),oW 282 2 M.aO.en x4.2.2.bW.aG4.aG3)/\s.h 1200005=(u5,oW 5 1 enB r5)/\s.h 1500005=(((s1.h 1500005).1+1),oW 284 4 M.aG1.en x4.2.2.aH.aG4.aGk))/\nT x4 ae m r5=some r
 have e1:=@nT.eq_2
 exact sgX
instance:bF 46 (type_of% @c46):=⟨@c46⟩
theorem c45 (p0 r) (h:tL p0=some r):Sc 45 [(false,[.ptr [.sl (List.map enB p0.b),.int .i64 p0.i,.int .i64 p0.h]])] [(false,[.edit (.lend 182 [.int .i64 r.1,.int .i64 r.2.1])]),(true,M.aA.rs r.2.2)]:=by
 unfold tL at h
 simp only [EN]
 refine sgB 29 [.cell 2 26] Tryz.func45 λbase wd B0 u0 hw0 => ?_
 refine eA (J:=λs=>s.t 0=vP 7059000 1 0/\s.h 7059000=(1,oB 182 [.old B0 (.sl (List.map enB p0.b)) (some u0),cI p0.i,cI p0.h])/\True) ?_ ?_
 ·and_intros<;>(try simp only [LN,List.map_cons,List.map_nil])<;>rfl
 rintro s1 f2
 have i1:=D5 [.b 3 0 7050000 49 24] λm s=>∃v4:Int,∃aa:Int,∃ae:Int,∃af:List M.aG,∃ah:Nat,(s.t 0=vP 7059000 1 0/\s.t 2=vP 2 ((s1.h 2).1+1) 0/\s.t 3=vP 3 ((s1.h 3).1+1) 0/\s.t 4=vI v4/\s.h 2=(((s1.h 2).1+1),oB 26 [.nil])/\s.h 3=(((s1.h 3).1+1),oB 26 [.row 7050000 ah])/\s.h 7050000=(ah,oW 49 24 M.aG.en af)/\s.h 7059000=(1,oB 182 [.old B0 (.sl (List.map enB p0.b)) (some u0),cI aa,cI ae]))/\jK p0 m v4 aa ae af=some r
 have e1:=@jK.eq_2
 exact sgX
theorem aCa (p0 r) (h:BS p0=some r):Sc 119 [(false,[.ptr [.sl (List.map enB p0.b),.int .i64 p0.i,.int .i64 p0.h]])] [(false,[.edit (.lend 182 [.int .i64 r.1,.int .i64 r.2.1])]),(true,M.World.rs r.2.2)]:=by
 unfold BS at h
 simp only [EN]
 refine sgB 13 [.cell 2 75] Tryz.func119 λbase wd B0 u0 hw0 => ?_
 refine eA (J:=λs=>s.t 0=vP 7059000 1 0/\s.h 7059000=(1,oB 182 [.old B0 (.sl (List.map enB p0.b)) (some u0),cI p0.i,cI p0.h])/\True) ?_ ?_
 ·and_intros<;>(try simp only [LN,List.map_cons,List.map_nil])<;>rfl
 rintro s1 f2
 refine sq ?_
 apply bY
 ·simp +decide only [LN,LI,E,reduceIte,Nat.reduceAdd,Nat.reduceMul,qB,qC,L,C0,EN,f2];exact Is.mk _
 refine an (sq ?_)
 obtain ⟨x4,h5,h⟩:=bind_some h
 apply bY
 ·simp +decide only [LN,LI,E,reduceIte,Nat.reduceAdd,Nat.reduceMul,qB,qC,L,C0,EN,f2]
  refine ⟨_,aGA _ _ h5,?_⟩
  try simp +decide only [LN,LI,E,reduceIte,Nat.reduceAdd,Nat.reduceMul,qB,qC,L,C0,EN,f2]
  exact Is.mk _
 refine an (sq ?_)
 refine eA (J:=λs=>s.t 0=vP 7059000 1 0/\s.t 2=vP 2 ((s1.h 2).1+1) 0/\s.t 3=vP 3 ((s1.h 3).1+1) 0/\s.h 2=(((s1.h 2).1+1),Qh)/\s.h 3=(((s1.h 3).1+1),oB 75 [cI x4.2.2.Now,cB x4.2.2.aHA,cI x4.2.2.aGp,.row 400005 ((s1.h 400005).1+1),.row 500005 ((s1.h 500005).1+1),cI x4.2.2.aGv,.row 700005 ((s1.h 700005).1+1),.row 800005 ((s1.h 800005).1+1),.row 900005 ((s1.h 900005).1+1),.row 1000005 ((s1.h 1000005).1+1)])/\s.h 400005=(((s1.h 400005).1+1),oW 49 24 M.aG.en x4.2.2.aA.aGj)/\s.h 500005=(((s1.h 500005).1+1),oW 96 11 M.bJ.en x4.2.2.aGx)/\s.h 700005=(((s1.h 700005).1+1),oW 154 4 M.nW.en x4.2.2.aGy.aGy)/\s.h 800005=(((s1.h 800005).1+1),oW 157 3 M.Bk.en x4.2.2.aGt.aHN)/\s.h 900005=(((s1.h 900005).1+1),oW 85 4 M.aGl.en x4.2.2.aG2)/\s.h 1000005=(((s1.h 1000005).1+1),oW 137 5 M.aGr.en x4.2.2.aGz)/\s.h 7059000=(1,oB 182 [.old B0 (.sl (List.map enB p0.b)) (some u0),cI x4.1,cI x4.2.1])/\True) ?_ ?_
 ·and_intros<;>(try simp +decide only [LN,LI,F,reduceIte,Nat.reduceAdd,qB,qC,EN,M.aG.en,M.nW.en,M.Bk.en,M.bJ.en,M.aGr.en,M.aGl.en,f2])
 rintro s6 f7
 obtain ⟨aa,ax,h⟩:=bind_some h
 apply bY
 ·simp +decide only [LN,LI,E,reduceIte,Nat.reduceAdd,Nat.reduceMul,qB,qC,L,ti4,C0,EN, *,-h]
  refine ⟨_,c75 _ _ _ ax,?_⟩
  try simp +decide only [LN,LI,E,reduceIte,Nat.reduceAdd,Nat.reduceMul,qB,qC,L,ti4,C0,EN, *,-h]
  exact Is.mk _
 refine an (sq ?_)
 refine eA (J:=λs=>s.t 0=vP 7059000 1 0/\s.t 2=vP 2 ((s1.h 2).1+1) 0/\s.t 3=vP 3 ((s1.h 3).1+1) 0/\s.h 2=(((s1.h 2).1+1),Qh)/\s.h 3=(((s1.h 3).1+1),oB 75 [cI x4.2.2.Now,cB (!aa.2.2),cI x4.2.2.aGp,.row 400005 ((s1.h 400005).1+1),.row 500005 ((s1.h 500005).1+1),cI x4.2.2.aGv,.row 700005 ((s1.h 700005).1+1),.row 800005 ((s1.h 800005).1+1),.row 900005 ((s1.h 900005).1+1),.row 1000005 ((s1.h 1000005).1+1)])/\s.h 400005=(((s1.h 400005).1+1),oW 49 24 M.aG.en x4.2.2.aA.aGj)/\s.h 500005=(((s1.h 500005).1+1),oW 96 11 M.bJ.en x4.2.2.aGx)/\s.h 700005=(((s1.h 700005).1+1),oW 154 4 M.nW.en x4.2.2.aGy.aGy)/\s.h 800005=(((s1.h 800005).1+1),oW 157 3 M.Bk.en x4.2.2.aGt.aHN)/\s.h 900005=(((s1.h 900005).1+1),oW 85 4 M.aGl.en x4.2.2.aG2)/\s.h 1000005=(((s1.h 1000005).1+1),oW 137 5 M.aGr.en x4.2.2.aGz)/\s.h 7059000=(1,oB 182 [.old B0 (.sl (List.map enB p0.b)) (some u0),cI aa.1,cI aa.2.1])/\True) ?_ ?_
 ·and_intros<;>(try simp +decide only [LN,LI,F,reduceIte,Nat.reduceAdd,qB,qC,EN,M.aG.en,M.nW.en,M.Bk.en,M.bJ.en,M.aGr.en,M.aGl.en, *,-h])
 rintro bn f22
 apply S4 (n:=2) (f:=78) (d:=12) (N':=47) (vars:=[.cell 4 75]) rfl rfl rfl rfl qe Tryz.func78 rfl rfl rfl qf qe
 ·simp +decide only [LN,LI,E,reduceIte,Nat.reduceAdd,Nat.reduceMul,qB,qC,L,C0,EN, *,-h];exact Is.mk _
 intro fv
 refine eA (J:=λs=>s.t 0=vP 7059000 1 0/\s.t 1 = .v true [.dat (.int .i64 x4.2.2.Now),.dat (.bool (!aa.2.2)),.dat (.int .i64 x4.2.2.aGp),.row 400005 ((s1.h 400005).1+1),.row 500005 ((s1.h 500005).1+1),.dat (.int .i64 x4.2.2.aGv),.row 700005 ((s1.h 700005).1+1),.row 800005 ((s1.h 800005).1+1),.row 900005 ((s1.h 900005).1+1),.row 1000005 ((s1.h 1000005).1+1)]/\s.fr 0=vP 7059000 1 0/\s.fr 2=vP 2 ((s1.h 2).1+1) 0/\s.h 2=(((s1.h 2).1+1),Qh)/\s.h 400005=(((s1.h 400005).1+1),oW 49 24 M.aG.en x4.2.2.aA.aGj)/\s.h 500005=(((s1.h 500005).1+1),oW 96 11 M.bJ.en x4.2.2.aGx)/\s.h 700005=(((s1.h 700005).1+1),oW 154 4 M.nW.en x4.2.2.aGy.aGy)/\s.h 800005=(((s1.h 800005).1+1),oW 157 3 M.Bk.en x4.2.2.aGt.aHN)/\s.h 900005=(((s1.h 900005).1+1),oW 85 4 M.aGl.en x4.2.2.aG2)/\s.h 1000005=(((s1.h 1000005).1+1),oW 137 5 M.aGr.en x4.2.2.aGz)/\s.h 7059000=(1,oB 182 [.old B0 (.sl (List.map enB p0.b)) (some u0),cI aa.1,cI aa.2.1])/\True) ?_ ?_
 ·and_intros<;>(try first | (simp +decide only [LN,LI,F,reduceIte,Nat.reduceAdd,qB,qC,EN,M.aG.en,M.nW.en,M.Bk.en,M.bJ.en,M.aGr.en,M.aGl.en, *,-h];done) | (simp +decide only [LN,LI,F,reduceIte,Nat.reduceAdd,qB,qC,EN,M.aG.en,M.nW.en,M.Bk.en,M.bJ.en,M.aGr.en,M.aGl.en, *,-h];rfl) | rfl)
 rintro aq f35
 refine sq ?_
 apply bY
 ·simp +decide only [LN,LI,E,reduceIte,Nat.reduceAdd,Nat.reduceMul,qB,qC,L,C0,EN, *,-h];exact Is.mk _
 refine an (sq (sq ?_))
 obtain ⟨af,ay,h⟩:=bind_some h
 apply bY
 ·simp +decide only [LN,LI,E,reduceIte,Nat.reduceAdd,Nat.reduceMul,qB,qC,L,EN, *,-h]
  refine ⟨_,c65 _ _ _ ay,?_⟩
  try simp +decide only [LN,LI,E,reduceIte,Nat.reduceAdd,Nat.reduceMul,qB,qC,L,EN, *,-h]
  exact Is.mk _
 refine an (bk (sq ?_))
 refine eA (J:=λs=>s.t 0=vP 7059000 1 0/\s.t 3=vP 3 ((aq.h 3).1+1) 0/\s.t 4=vP 4 ((aq.h 4).1+1) 0/\s.t 6=vI af.2.2/\s.fr 0=vP 7059000 1 0/\s.fr 2=vP 2 ((s1.h 2).1+1) 0/\s.h 2=(((s1.h 2).1+1),Qh)/\s.h 3=(((aq.h 3).1+1),oB 75 [cI x4.2.2.Now,cB (!aa.2.2),cI x4.2.2.aGp,.row 400005 ((s1.h 400005).1+1),.row 500005 ((s1.h 500005).1+1),cI x4.2.2.aGv,.row 700005 ((s1.h 700005).1+1),.row 800005 ((s1.h 800005).1+1),.row 900005 ((s1.h 900005).1+1),.row 1000005 ((s1.h 1000005).1+1)])/\s.h 4=(((aq.h 4).1+1),Qh)/\s.h 400005=(((s1.h 400005).1+1),oW 49 24 M.aG.en x4.2.2.aA.aGj)/\s.h 500005=(((s1.h 500005).1+1),oW 96 11 M.bJ.en x4.2.2.aGx)/\s.h 700005=(((s1.h 700005).1+1),oW 154 4 M.nW.en x4.2.2.aGy.aGy)/\s.h 800005=(((s1.h 800005).1+1),oW 157 3 M.Bk.en x4.2.2.aGt.aHN)/\s.h 900005=(((s1.h 900005).1+1),oW 85 4 M.aGl.en x4.2.2.aG2)/\s.h 1000005=(((s1.h 1000005).1+1),oW 137 5 M.aGr.en x4.2.2.aGz)/\s.h 7059000=(1,oB 182 [.old B0 (.sl (List.map enB p0.b)) (some u0),cI af.1,cI af.2.1])/\True) ?_ ?_
 ·and_intros<;>(try simp +decide only [LN,LI,F,reduceIte,Nat.reduceAdd,qB,qC,EN,M.aG.en,M.nW.en,M.Bk.en,M.bJ.en,M.aGr.en,M.aGl.en, *,-h])
 rintro aw f50
 apply bY
 ·simp +decide only [LN,LI,E,reduceIte,Nat.reduceAdd,Nat.reduceMul,qB,qC,L,EN, *,-h];exact Is.mk _
 refine an ?_
 rcases oQ (af.2.2==0) with ae | ae
 ·replace h:=cT ae h
  refine Dg (by simp +decide only [LN,LI,F,reduceIte,Nat.reduceAdd,qB,qC,EN, *,-h]) ?_
  obtain ⟨az,ba,h⟩:=bind_some h
  apply bY
  ·simp +decide only [LN,LI,E,reduceIte,Nat.reduceAdd,Nat.reduceMul,qB,qC,L,ti3,C0,Zw,enI,EN, *,-h]
   have hc:=c69 _ _ _ ba
   simp only [List.map_append,List.map_cons,List.map_nil,enI] at hc
   refine ⟨_,hc,?_⟩
   try simp +decide only [LN,LI,E,reduceIte,Nat.reduceAdd,Nat.reduceMul,qB,qC,L,ti3,C0,Zw,enI,EN, *,-h]
   exact Is.mk _
  refine ab (an (sq ?_))
  apply bY
  ·simp +decide only [LN,LI,E,reduceIte,Nat.reduceAdd,Nat.reduceMul,qB,qC,L,C0,EN, *,-h];exact Is.mk _
  refine an (rt ?_)
  apply SZ.mk (l:=[(true,[.dat (.int .i64 az.2.2),.dat (.bool (!aa.2.2)),.dat (.int .i64 x4.2.2.aGp),.row 400005 ((s1.h 400005).1+1),.row 500005 ((s1.h 500005).1+1),.dat (.int .i64 x4.2.2.aGv),.row 700005 ((s1.h 700005).1+1),.row 800005 ((s1.h 800005).1+1),.row 900005 ((s1.h 900005).1+1),.row 1000005 ((s1.h 1000005).1+1)])]) (by simp [LN,LI,C0,EN,f50,ae])
  ·simp +decide only [KQ,LN,LI,E,reduceIte,Nat.reduceAdd,Nat.reduceMul,qB,qC,L,C0,EN, *,-h];exact Is.mk _
  refine an (rt ?_)
  cases h
  simp [Iq,Ret,LN,LI,TB,EN, *]
 replace h:=cR ae h
 refine EJ (by simp +decide only [LN,LI,F,reduceIte,Nat.reduceAdd,qB,qC,EN, *,-h]) ?_
 refine sq ?_
 apply bY
 ·simp +decide only [LN,LI,E,reduceIte,Nat.reduceAdd,Nat.reduceMul,qB,qC,L,EN, *,-h];exact Is.mk _
 refine an ?_
 rcases oQ (af.2.2==1) with ah | ah
 ·replace h:=cT ah h;refine Dg (by simp +decide only [LN,LI,F,reduceIte,Nat.reduceAdd,qB,qC,EN, *,-h]) ?_;apply bY;(simp +decide only [LN,LI,E,reduceIte,Nat.reduceAdd,Nat.reduceMul,qB,qC,L,ti3,C0,EN, *,-h];exact Is.mk _);refine ab (an (sq ?_));apply bY;(simp +decide only [LN,LI,E,reduceIte,Nat.reduceAdd,Nat.reduceMul,qB,qC,L,C0,EN, *,-h];exact Is.mk _);refine an (rt ?_);apply SZ.mk (l:=[(true,[.dat (.int .i64 x4.2.2.Now),.dat (.bool (!aa.2.2)),.dat (.int .i64 0),.row 400005 ((s1.h 400005).1+1),.row 500005 ((s1.h 500005).1+1),.dat (.int .i64 x4.2.2.aGv),.row 700005 ((s1.h 700005).1+1),.row 800005 ((s1.h 800005).1+1),.row 900005 ((s1.h 900005).1+1),.row 1000005 ((s1.h 1000005).1+1)])]) (by simp [LN,LI,C0,EN,f50,ae,ah]);(simp +decide only [KQ,LN,LI,E,reduceIte,Nat.reduceAdd,Nat.reduceMul,qB,qC,L,C0,EN, *,-h];exact Is.mk _);refine an (rt ?_);cases h;simp [Iq,Ret,LN,LI,TB,EN, *]
 replace h:=cR ah h
 refine EJ (by simp +decide only [LN,LI,F,reduceIte,Nat.reduceAdd,qB,qC,EN, *,-h]) ?_
 refine sq ?_
 apply bY
 ·simp +decide only [LN,LI,E,reduceIte,Nat.reduceAdd,Nat.reduceMul,qB,qC,L,EN, *,-h];exact Is.mk _
 refine an ?_
 rcases oQ (af.2.2==2) with ai | ai
 ·replace h:=cT ai h
  refine Dg (by simp +decide only [LN,LI,F,reduceIte,Nat.reduceAdd,qB,qC,EN, *,-h]) ?_
  obtain ⟨bo,ar,h⟩:=bind_some h
  apply bY
  ·simp +decide only [LN,LI,E,reduceIte,Nat.reduceAdd,Nat.reduceMul,qB,qC,<-List.map_take,<-List.map_drop,L,aAc,C0,aAv,M.aGl.en,EN, *,-h]
   refine ⟨by first | exact pD ar | exact (pD ar).2 | exact (pD ar).2.2,?_⟩
   try simp +decide only [LN,LI,E,reduceIte,Nat.reduceAdd,Nat.reduceMul,qB,qC,<-List.map_take,<-List.map_drop,L,aAc,C0,aAv,M.aGl.en,EN, *,-h]
   exact Is.mk _
  refine ab (an (sq ?_))
  apply bY
  ·simp +decide only [LN,LI,E,reduceIte,Nat.reduceAdd,Nat.reduceMul,qB,qC,L,C0,EN, *,-h];exact Is.mk _
  refine an (rt ?_)
  apply SZ.mk (l:=[(true,[.dat (.int .i64 x4.2.2.Now),.dat (.bool (!aa.2.2)),.dat (.int .i64 x4.2.2.aGp),.row 400005 ((s1.h 400005).1+1),.row 500005 ((s1.h 500005).1+1),.dat (.int .i64 x4.2.2.aGv),.row 700005 ((s1.h 700005).1+1),.row 800005 ((s1.h 800005).1+1),.part 900005 ((s1.h 900005).1+1) 0 (2:Int).toNat,.row 1000005 ((s1.h 1000005).1+1)])]) (by simp [LN,LI,C0,EN,f50,ae,ah,ai])
  ·simp +decide only [KQ,LN,LI,E,reduceIte,Nat.reduceAdd,Nat.reduceMul,qB,qC,L,C0,EN, *,-h];exact Is.mk _
  refine an ?_
  refine HM (Gho.Zj (b:=2) (vb:=((s1.h 2).1+1)) (t:=75) (cells:=[.dat (.int .i64 x4.2.2.Now),.dat (.bool (!aa.2.2)),.dat (.int .i64 x4.2.2.aGp),.row 400005 ((s1.h 400005).1+1),.row 500005 ((s1.h 500005).1+1),.dat (.int .i64 x4.2.2.aGv),.row 700005 ((s1.h 700005).1+1),.row 800005 ((s1.h 800005).1+1),.part 900005 ((s1.h 900005).1+1) 0 (2:Int).toNat,.row 1000005 ((s1.h 1000005).1+1)]) (c:=8) (j:=900005) (vj:=((s1.h 900005).1+1)) (K:=900005) (n:=(2:Int).toNat) (e:=85) (sz:=4) (dp:=true) (xs:=(List.map M.aGl.en x4.2.2.aG2)) (List.map M.aGl.en (List.take (2:Int).toNat x4.2.2.aG2)) (by first | (simp +decide only [LN,LI,F,reduceIte,Nat.reduceAdd,qB,qC,EN,M.aGl.en, *,-h];done) | (simp +decide only [LN,LI,F,reduceIte,Nat.reduceAdd,qB,qC,EN,M.aGl.en, *,-h];rfl) | rfl) rfl (by first | (simp +decide only [LN,LI,F,reduceIte,Nat.reduceAdd,qB,qC,EN,M.aGl.en, *,-h];done) | (simp +decide only [LN,LI,F,reduceIte,Nat.reduceAdd,qB,qC,EN,M.aGl.en, *,-h];rfl) | rfl) qe (by rw [List.length_map];exact (pD ar).2) (by rw [List.map_take])) ?_
  refine eA (J:=λs=>s.h 7059000=aw.h 7059000/\s.t 0=vP 7059000 1 0/\s.t 2=vP 2 ((s1.h 2).1+1) 0/\s.h 2=(((s1.h 2).1+1),oB 75 [cI x4.2.2.Now,cB (!aa.2.2),cI x4.2.2.aGp,.row 400005 ((s1.h 400005).1+1),.row 500005 ((s1.h 500005).1+1),cI x4.2.2.aGv,.row 700005 ((s1.h 700005).1+1),.row 800005 ((s1.h 800005).1+1),.row 900005 (((s1.h 900005).1+1)+1),.row 1000005 ((s1.h 1000005).1+1)])/\s.h 400005=(((s1.h 400005).1+1),oW 49 24 M.aG.en x4.2.2.aA.aGj)/\s.h 500005=(((s1.h 500005).1+1),oW 96 11 M.bJ.en x4.2.2.aGx)/\s.h 700005=(((s1.h 700005).1+1),oW 154 4 M.nW.en x4.2.2.aGy.aGy)/\s.h 800005=(((s1.h 800005).1+1),oW 157 3 M.Bk.en x4.2.2.aGt.aHN)/\s.h 900005=((((s1.h 900005).1+1)+1),oW 85 4 M.aGl.en (List.take (2:Int).toNat x4.2.2.aG2))/\s.h 1000005=(((s1.h 1000005).1+1),oW 137 5 M.aGr.en x4.2.2.aGz)/\True) ?_ ?_
  ·and_intros<;>(try simp +decide only [LN,LI,F,reduceIte,Nat.reduceAdd,qB,qC,EN,M.aG.en,M.nW.en,M.Bk.en,M.bJ.en,M.aGr.en,M.aGl.en, *,-h])
  rintro bq ⟨f83,f74⟩
  replace f83:=f83.trans f50.2.2.2.2.2.2.2.2.2.2.2.2.2.2.2.1
  refine rt ?_
  cases h
  simp [Iq,Ret,LN,LI,TB,EN, *]
 replace h:=cR ai h
 refine EJ (by simp +decide only [LN,LI,F,reduceIte,Nat.reduceAdd,qB,qC,EN, *,-h]) ?_
 refine sq ?_
 apply bY
 ·simp +decide only [LN,LI,E,reduceIte,Nat.reduceAdd,Nat.reduceMul,qB,qC,L,EN, *,-h];exact Is.mk _
 refine an ?_
 rcases oQ (af.2.2==3) with aj | aj
 ·replace h:=cT aj h
  refine Dg (by simp +decide only [LN,LI,F,reduceIte,Nat.reduceAdd,qB,qC,EN, *,-h]) ?_
  obtain ⟨br,bd,h⟩:=bind_some h
  apply bY
  ·simp +decide only [LN,LI,E,reduceIte,Nat.reduceAdd,Nat.reduceMul,qB,qC,L,aBO,C0,EN, *,-h]
   refine ⟨_,c45 _ _ bd,?_⟩
   try simp +decide only [LN,LI,E,reduceIte,Nat.reduceAdd,Nat.reduceMul,qB,qC,L,aBO,C0,EN, *,-h]
   exact Is.mk _
  refine ab (an (sq ?_))
  apply bY
  ·simp +decide only [LN,LI,E,reduceIte,Nat.reduceAdd,Nat.reduceMul,qB,qC,L,C0,EN, *,-h];exact Is.mk _
  refine an (rt ?_)
  apply SZ.mk (l:=[(true,[.dat (.int .i64 x4.2.2.Now),.dat (.bool (!aa.2.2)),.dat (.int .i64 x4.2.2.aGp),.row 100025 ((aw.h 100025).1+1),.row 500005 ((s1.h 500005).1+1),.dat (.int .i64 x4.2.2.aGv),.row 700005 ((s1.h 700005).1+1),.row 800005 ((s1.h 800005).1+1),.row 900005 ((s1.h 900005).1+1),.row 1000005 ((s1.h 1000005).1+1)])]) (by simp [LN,LI,C0,EN,f50,ae,ah,ai,aj])
  ·simp +decide only [KQ,LN,LI,E,reduceIte,Nat.reduceAdd,Nat.reduceMul,qB,qC,L,C0,EN, *,-h];exact Is.mk _
  refine an (rt ?_)
  cases h
  simp [Iq,Ret,LN,LI,TB,EN, *]
 replace h:=cR aj h
 refine EJ (by simp +decide only [LN,LI,F,reduceIte,Nat.reduceAdd,qB,qC,EN, *,-h]) ?_
 refine sq ?_
 apply bY
 ·simp +decide only [LN,LI,E,reduceIte,Nat.reduceAdd,Nat.reduceMul,qB,qC,L,EN, *,-h];exact Is.mk _
 refine an ?_
 rcases oQ (af.2.2==4) with ak | ak
 ·replace h:=cT ak h
  refine Dg (by simp +decide only [LN,LI,F,reduceIte,Nat.reduceAdd,qB,qC,EN, *,-h]) ?_
  obtain ⟨bt,bf,h⟩:=bind_some h
  obtain ⟨bu,bg,h⟩:=bind_some h
  apply Bv mixed
  ·simp +decide only [LN,LI,E,reduceIte,Nat.reduceAdd,Nat.reduceMul,qB,qC,L,Xr,C0,Xx,M.bJ.en,EN, *,-h]
   refine ⟨_,aFt _ _ bf,?_⟩
   try simp +decide only [LN,LI,E,reduceIte,Nat.reduceAdd,Nat.reduceMul,qB,qC,L,Xr,C0,Xx,M.bJ.en,EN, *,-h]
   refine ⟨by (have hb:=gL bg);simp [M.bJ.en,qE,aQ] at hb ⊢ <;> omega,?_⟩
   try simp +decide only [LN,LI,E,reduceIte,Nat.reduceAdd,Nat.reduceMul,qB,qC,L,Xr,C0,Xx,M.bJ.en,EN, *,-h]
   exact ⟨.mk qf,Is.mk _⟩
  refine ab (an (sq ?_))
  apply bY
  ·simp +decide only [LN,LI,E,reduceIte,Nat.reduceAdd,Nat.reduceMul,qB,qC,L,C0,EN, *,-h];exact Is.mk _
  refine an (rt ?_)
  apply SZ.mk (l:=[(true,[.dat (.int .i64 x4.2.2.Now),.dat (.bool (!aa.2.2)),.dat (.int .i64 x4.2.2.aGp),.row 400005 ((s1.h 400005).1+1),.row 500005 (((s1.h 500005).1+1)+1),.dat (.int .i64 x4.2.2.aGv),.row 700005 ((s1.h 700005).1+1),.row 800005 ((s1.h 800005).1+1),.row 900005 ((s1.h 900005).1+1),.row 1000005 ((s1.h 1000005).1+1)])]) (by simp [LN,LI,C0,EN,f50,ae,ah,ai,aj,ak])
  ·simp +decide only [KQ,LN,LI,E,reduceIte,Nat.reduceAdd,Nat.reduceMul,qB,qC,L,C0,EN, *,-h];exact Is.mk _
  refine an (rt ?_)
  cases h
  simp [Iq,Ret,LN,LI,TB,EN, *]
 replace h:=cR ak h
 refine EJ (by simp +decide only [LN,LI,F,reduceIte,Nat.reduceAdd,qB,qC,EN, *,-h]) ?_
 refine sq ?_
 apply bY
 ·simp +decide only [LN,LI,E,reduceIte,Nat.reduceAdd,Nat.reduceMul,qB,qC,L,EN, *,-h];exact Is.mk _
 refine an ?_
 rcases oQ (af.2.2==5) with al | al
 ·replace h:=cT al h;refine Dg (by simp +decide only [LN,LI,F,reduceIte,Nat.reduceAdd,qB,qC,EN, *,-h]) ?_;apply bY;(simp +decide only [LN,LI,E,reduceIte,Nat.reduceAdd,Nat.reduceMul,qB,qC,L,ti3,C0,EN, *,-h];exact Is.mk _);refine ab (an (sq ?_));apply bY;(simp +decide only [LN,LI,E,reduceIte,Nat.reduceAdd,Nat.reduceMul,qB,qC,L,C0,EN, *,-h];exact Is.mk _);refine an (rt ?_);apply SZ.mk (l:=[(true,[.dat (.int .i64 x4.2.2.Now),.dat (.bool (!aa.2.2)),.dat (.int .i64 x4.2.2.aGp),.row 400005 ((s1.h 400005).1+1),.row 500005 ((s1.h 500005).1+1),.dat (.int .i64 0),.row 700005 ((s1.h 700005).1+1),.row 800005 ((s1.h 800005).1+1),.row 900005 ((s1.h 900005).1+1),.row 1000005 ((s1.h 1000005).1+1)])]) (by simp [LN,LI,C0,EN,f50,ae,ah,ai,aj,ak,al]);(simp +decide only [KQ,LN,LI,E,reduceIte,Nat.reduceAdd,Nat.reduceMul,qB,qC,L,C0,EN, *,-h];exact Is.mk _);refine an (rt ?_);cases h;simp [Iq,Ret,LN,LI,TB,EN, *]
 replace h:=cR al h
 refine EJ (by simp +decide only [LN,LI,F,reduceIte,Nat.reduceAdd,qB,qC,EN, *,-h]) ?_
 refine sq ?_
 apply bY
 ·simp +decide only [LN,LI,E,reduceIte,Nat.reduceAdd,Nat.reduceMul,qB,qC,L,EN, *,-h];exact Is.mk _
 refine an ?_
 rcases CH (af.2.2==6) with ao | ao
 ·replace h:=cR ao h;refine EJ (by simp +decide only [LN,LI,F,reduceIte,Nat.reduceAdd,qB,qC,EN, *,-h]) ?_;refine sk (ab (an (sq ?_)));apply bY;(simp +decide only [LN,LI,E,reduceIte,Nat.reduceAdd,Nat.reduceMul,qB,qC,L,C0,EN, *,-h];exact Is.mk _);refine an (rt ?_);apply SZ.mk (l:=[(true,[.dat (.int .i64 x4.2.2.Now),.dat (.bool (!aa.2.2)),.dat (.int .i64 x4.2.2.aGp),.row 400005 ((s1.h 400005).1+1),.row 500005 ((s1.h 500005).1+1),.dat (.int .i64 x4.2.2.aGv),.row 700005 ((s1.h 700005).1+1),.row 800005 ((s1.h 800005).1+1),.row 900005 ((s1.h 900005).1+1),.row 1000005 ((s1.h 1000005).1+1)])]) (by simp [LN,LI,C0,EN,f50,ae,ah,ai,aj,ak,al,ao]);(simp +decide only [KQ,LN,LI,E,reduceIte,Nat.reduceAdd,Nat.reduceMul,qB,qC,L,C0,EN, *,-h];exact Is.mk _);refine an (rt ?_);cases h;simp [Iq,Ret,LN,LI,TB,EN, *]
 replace h:=cT ao h
 refine Dg (by simp +decide only [LN,LI,F,reduceIte,Nat.reduceAdd,qB,qC,EN, *,-h]) ?_
 obtain ⟨bw,bh,h⟩:=bind_some h
 obtain ⟨bx,bj,h⟩:=bind_some h
 obtain ⟨bl,bm,av⟩:=Az bj
 apply Bv mixed
 ·simp +decide only [LN,LI,E,reduceIte,Nat.reduceAdd,Nat.reduceMul,qB,qC,L,aAe,C0,YZ,M.aGr.en,EN, *,-h]
  refine ⟨_,aGZ _ _ bh,?_⟩
  try simp +decide only [LN,LI,E,reduceIte,Nat.reduceAdd,Nat.reduceMul,qB,qC,L,aAe,C0,YZ,M.aGr.en,EN, *,-h]
  exact ⟨.mk qf,Is.mk _⟩
 refine ab (an (sq ?_))
 apply bY
 ·simp +decide only [LN,LI,E,reduceIte,Nat.reduceAdd,Nat.reduceMul,qB,qC,L,C0,EN, *,-h];exact Is.mk _
 refine an (rt ?_)
 apply SZ.mk (l:=[(true,[.dat (.int .i64 x4.2.2.Now),.dat (.bool (!aa.2.2)),.dat (.int .i64 x4.2.2.aGp),.row 400005 ((s1.h 400005).1+1),.row 500005 ((s1.h 500005).1+1),.dat (.int .i64 x4.2.2.aGv),.row 700005 ((s1.h 700005).1+1),.row 800005 ((s1.h 800005).1+1),.row 900005 ((s1.h 900005).1+1),.row 1000005 ((s1.h 1000005).1+1)])]) (by simp [LN,LI,C0,EN,f50,ae,ah,ai,aj,ak,al,ao,bl,bm,av])
 ·simp +decide only [KQ,LN,LI,E,reduceIte,Nat.reduceAdd,Nat.reduceMul,qB,qC,L,C0,EN, *,-h];exact Is.mk _
 refine an (rt ?_)
 cases h
 simp [Iq,Ret,LN,LI,TB,EN, *]
instance:bF 119 (type_of% @aCa):=⟨@aCa⟩
theorem c41 (p0 r) (h:jZ p0=some r):Sc 41 [aL enB p0] [(true,M.World.rs r.1),rS r.2]:=by unfold jZ at h;exact sgo 14 [.cell 2 75,.tmp 3] Tryz.func41
end Go.Proofs.YtipmihbgjolaaaaGreat.gen
