/-
  Helper text. No conditions.
-/
import Derived.Test.YtipmihbgjolaaaaGreatWorldsTi
import Derived.Test.YtipmihbgjolaaaaGreatWorldsWspec0
import Derived.Test.YtipmihbgjolaaaaGreatWorldsWspec1
import Derived.Test.YtipmihbgjolaaaaGreatWorldsWspec2
import Derived.Test.YtipmihbgjolaaaaGreatWorldsWspec3
import Derived.Test.YtipmihbgjolaaaaGreatWorldsWspec4
import Derived.Test.YtipmihbgjolaaaaGreatWorldsWspec5
set_option linter.unusedVariables false
set_option linter.unusedSimpArgs false
namespace Go.Proofs.YtipmihbgjolaaaaGreat.gen
open Go Go.Sh
set_option maxRecDepth 20000
set_option maxHeartbeats 4000000
theorem MZ (p0 r) (h:bQ p0=some r):Sc 236 [aX (M.aAA.en p0)] [rB r]:=by
 have i1:=inv λm s=>∃v3:Int,(s.t 1=vP 1 1 0/\s.t 3=vI v3/\s.h 1=(1,oX 35 (M.aAA.en p0)))/\eA p0 m v3=some r
 have e1:=@eA.eq_2
 have i2:=inv λm s=>∃v4:Int,(s.t 1=vP 1 1 0/\s.t 4=vI v4/\s.h 1=(1,oX 35 (M.aAA.en p0)))/\eB p0 m v4=some r
 have e2:=@eB.eq_2
 have i3:=λ(v4:Int) (ae:M.aN) (af:Int->Option Bool)=>inv λm s=>∃aa:Int,(s.t 1=vP 1 1 0/\s.t 4=vI v4/\s.t 9=vI aa/\s.h 1=(1,oX 35 (M.aAA.en p0)))/\fN p0 v4 ae af m aa=some r
 have e3:=@fN.eq_2
 unfold bQ at h
 exact sgo 124 [.tmp 2] Tryz.func236
instance:cA 236 (type_of% @MZ):=⟨@MZ⟩
theorem YY (p0 r) (h:yR p0=some r):Sc 316 [aX (M.cR.en p0)] [rI r]:=by unfold yR at h;exact sgo 10 [.tmp 2] Tryz.func316
instance:cA 316 (type_of% @YY):=⟨@YY⟩
theorem WG (p0 r) (h:pP p0=some r):Sc 342 [aL enB p0] [rW 257 7 M.Op.en r.1,rB r.2]:=by
 have i1:=λ(x1:(Int×Int×Bool))=>inv λm s=>∃v5:Int,∃v8:Int,∃aa:List M.Op,∃ae:Nat,(s.t 0=vL enB p0/\s.t 4=vI x1.1/\s.t 5=vI v5/\s.t 7=vR 100025 ae/\s.t 8=vI v8/\s.h 100025=(ae,oW 257 7 M.Op.en aa))/\jB p0 x1 m v5 v8 aa=some r
 have e1:=@jB.eq_2
 unfold pP at h
 exact sgo 53 [.tmp 2,.tmp 3] Tryz.func342
instance:cA 342 (type_of% @WG):=⟨@WG⟩
theorem Xf (p0 p1 r) (h:xA p0 p1=some r):Sc 388 [aX (M.aA.en p0),aX (M.Op.en p1)] [(true,M.aA.rs r.1),rI r.2.1,rB r.2.2]:=by unfold xA at h;exact sgo 97 [.cell 4 40,.tmp 5,.tmp 6] Tryz.func388
instance:cA 388 (type_of% @Xf):=⟨@Xf⟩
theorem Y5 (p0 p1 r) (h:tG p0 p1=some r):Sc 350 [aX (M.aA.en p0),aL M.bA.en p1] [(true,M.aA.rs r)]:=by
 have i1:=DW [.b 5 1 7050000 284 4] λm s=>∃v6:Int,∃af:ByteArray,∃ah:Int,∃aa:List M.aAQ,∃ae:Nat,(s.t 1=vL M.bA.en p1/\s.t 4=vP 4 1 0/\s.t 5=vP 5 1 0/\s.t 6=vI v6/\s.h 4=(1,oB 40 [cS (⟨#[]⟩:ByteArray),.nil,cI 0])/\s.h 5=(1,oB 40 [cS af,.row 7050000 ae,cI ah])/\s.h 7050000=(ae,oW 284 4 M.aAQ.en aa))/\hZ p1 m v6 af ah aa=some r
 have e1:=@hZ.eq_2
 unfold tG at h
 exact sgo 29 [.cell 4 40] Tryz.func350
instance:cA 350 (type_of% @Y5):=⟨@Y5⟩
theorem c52 (p0 r) (h:fM p0=some r):Sc 52 [aX (M.aJ.en p0)] [(true,M.aJ.rs r)]:=by
 have i1:=DW [.b 3 0 7050000 49 24] λm s=>∃v4:Int,∃aa:List M.aO,∃ae:Nat,(s.t 1=vP 1 1 0/\s.t 2=vP 2 1 0/\s.t 3=vP 3 1 0/\s.t 4=vI v4/\s.h 1=(1,oX 26 (M.aJ.en p0))/\s.h 2=(1,oB 26 [.nil])/\s.h 3=(1,oB 26 [.row 7050000 ae])/\s.h 7050000=(ae,oW 49 24 M.aO.en aa))/\lN p0 m v4 aa=some r
 have e1:=@lN.eq_2
 unfold fM at h
 exact sgo 25 [.cell 2 26] Tryz.func52
instance:cA 52 (type_of% @c52):=⟨@c52⟩
theorem XY (p0 r) (h:yH p0=some r):Sc 124 [(false,[.ptr [.sl (List.map enB p0.b),.int .i64 p0.i,.int .i64 p0.h]])] [(false,[.edit (.lend 182 [.int .i64 r.1,.int .i64 r.2.1])]),(true,M.aF.rs r.2.2)]:=by
 unfold yH at h
 simp only [EN]
 refine sgB 56 [.cell 2 31] Tryz.func124 λbase wd B0 u0 hw0 => ?_
 refine eJ (J:=λs=>s.t 0 = .v false [.bp 7059000 1 0]/\s.h 7059000=(1,.box 182 [.old B0 (.sl (List.map enB p0.b)) (some u0),.dat (.int .i64 p0.i),.dat (.int .i64 p0.h)])/\True) ?_ ?_
 ·and_intros<;>(try simp only [LN,List.map_cons,List.map_nil])<;>rfl
 rintro s1 f2
 refine sq ?_
 apply bW
 ·simp +decide only [LN,E,reduceIte,Nat.reduceAdd,Nat.reduceMul,qB,qC,L,yY,EN,f2];exact Is.mk _
 refine an (sq ?_)
 obtain ⟨x4,h5,h⟩:=bind_some h
 apply bW
 ·simp +decide only [LN,E,reduceIte,Nat.reduceAdd,Nat.reduceMul,qB,qC,L,yY,EN,f2]
  refine ⟨_,ZR _ _ h5,?_⟩
  try simp +decide only [LN,E,reduceIte,Nat.reduceAdd,Nat.reduceMul,qB,qC,L,yY,EN,f2]
  exact Is.mk _
 refine an (sq (sq ?_))
 refine eJ (J:=λs=>s.t 0 = .v false [.bp 7059000 1 0]/\s.t 2 = .v false [.bp 2 ((s1.h 2).1+1) 0]/\s.t 3 = .v false [.bp 3 ((s1.h 3).1+1) 0]/\s.h 2=(((s1.h 2).1+1),.box 31 [.nil])/\s.h 3=(((s1.h 3).1+1),.box 31 [.row 100006 ((s1.h 100006).1+1)])/\s.h 100006=(((s1.h 100006).1+1),.row 193 2 (List.map M.aAL.en x4.2.2.aAE) true)/\s.h 7059000=(1,.box 182 [.old B0 (.sl (List.map enB p0.b)) (some u0),.dat (.int .i64 x4.1),.dat (.int .i64 x4.2.1)])/\True) ?_ ?_
 ·and_intros<;>(try simp +decide only [LN,F,reduceIte,Nat.reduceAdd,qB,qC,EN,M.aAL.en,f2])
 rintro s6 f7
 obtain ⟨af,ar,h⟩:=bind_some h
 apply bW
 ·simp +decide only [LN,E,reduceIte,Nat.reduceAdd,Nat.reduceMul,qB,qC,L,EN, *,-h]
  refine ⟨_,c65 _ _ _ ar,?_⟩
  try simp +decide only [LN,E,reduceIte,Nat.reduceAdd,Nat.reduceMul,qB,qC,L,EN, *,-h]
  exact Is.mk _
 refine an (bk (sq ?_))
 refine eJ (J:=λs=>s.t 0 = .v false [.bp 7059000 1 0]/\s.t 2 = .v false [.bp 2 ((s1.h 2).1+1) 0]/\s.t 3 = .v false [.bp 3 ((s1.h 3).1+1) 0]/\s.t 8 = .v false [.dat (.int .i64 af.2.2)]/\s.h 2=(((s1.h 2).1+1),.box 31 [.nil])/\s.h 3=(((s1.h 3).1+1),.box 31 [.row 100006 ((s1.h 100006).1+1)])/\s.h 100006=(((s1.h 100006).1+1),.row 193 2 (List.map M.aAL.en x4.2.2.aAE) true)/\s.h 7059000=(1,.box 182 [.old B0 (.sl (List.map enB p0.b)) (some u0),.dat (.int .i64 af.1),.dat (.int .i64 af.2.1)])/\True) ?_ ?_
 ·and_intros<;>(try simp +decide only [LN,F,reduceIte,Nat.reduceAdd,qB,qC,EN,M.aAL.en, *,-h])
 rintro s16 f17
 apply bW
 ·simp +decide only [LN,E,reduceIte,Nat.reduceAdd,Nat.reduceMul,qB,qC,L,EN, *,-h];exact Is.mk _
 refine an ?_
 rcases nY (af.2.2==0) with ai | ai
 ·replace h:=cF ai h
  refine Bo (by simp +decide only [LN,F,reduceIte,Nat.reduceAdd,qB,qC,EN, *,-h]) ?_
  obtain ⟨bf,av,h⟩:=bind_some h
  obtain ⟨bg,aw,h⟩:=bind_some h
  apply tP mixed
  ·simp +decide only [LN,E,reduceIte,Nat.reduceAdd,Nat.reduceMul,qB,qC,L,ti3,M9,yY,Uk,CQ,M.aAL.en,enI,EN, *,-h]
   have hc:=c69 _ _ _ av
   simp only [List.map_append,List.map_cons,List.map_nil,M.aAL.en,enI] at hc
   refine ⟨_,hc,?_⟩
   try simp +decide only [LN,E,reduceIte,Nat.reduceAdd,Nat.reduceMul,qB,qC,L,ti3,M9,yY,Uk,CQ,M.aAL.en,enI,EN, *,-h]
   refine ⟨by (have hb:=fJ aw);simp [M.aAL.en,enI,qE,aP] at hb ⊢ <;> omega,?_⟩
   try simp +decide only [LN,E,reduceIte,Nat.reduceAdd,Nat.reduceMul,qB,qC,L,ti3,M9,yY,Uk,CQ,M.aAL.en,enI,EN, *,-h]
   exact ⟨.mk qf,Is.mk _⟩
  refine ab (an (sq ?_))
  apply bW
  ·simp +decide only [LN,E,reduceIte,Nat.reduceAdd,Nat.reduceMul,qB,qC,L,yY,EN, *,-h];exact Is.mk _
  refine an (rt ?_)
  cases h
  simp [Iw,Ret,TB,EN, *]
 replace h:=cE ai h
 refine Ca (by simp +decide only [LN,F,reduceIte,Nat.reduceAdd,qB,qC,EN, *,-h]) ?_
 refine sq ?_
 apply bW
 ·simp +decide only [LN,E,reduceIte,Nat.reduceAdd,Nat.reduceMul,qB,qC,L,EN, *,-h];exact Is.mk _
 refine an ?_
 rcases zD (af.2.2==1) with aj | aj
 ·replace h:=cE aj h
  refine Ca (by simp +decide only [LN,F,reduceIte,Nat.reduceAdd,qB,qC,EN, *,-h]) ?_
  refine sq ?_
  apply bW
  ·simp +decide only [LN,E,reduceIte,Nat.reduceAdd,Nat.reduceMul,qB,qC,L,EN, *,-h];exact Is.mk _
  refine an ?_
  rcases zD (af.2.2==2) with ak | ak
  ·replace h:=cE ak h;refine Ca (by simp +decide only [LN,F,reduceIte,Nat.reduceAdd,qB,qC,EN, *,-h]) ?_;refine sk (ab (an (sq ?_)));apply bW;(simp +decide only [LN,E,reduceIte,Nat.reduceAdd,Nat.reduceMul,qB,qC,L,yY,EN, *,-h];exact Is.mk _);refine an (rt ?_);cases h;simp [Iw,Ret,TB,EN, *]
  replace h:=cF ak h
  refine Bo (by simp +decide only [LN,F,reduceIte,Nat.reduceAdd,qB,qC,EN, *,-h]) ?_
  refine sq ?_
  apply bW
  ·simp +decide only [LN,E,reduceIte,Nat.reduceAdd,Nat.reduceMul,qB,qC,L,EN, *,-h];exact Is.mk _
  refine an (bk ?_)
  refine Dc ((Gho.R9 (b:=3) (c:=0) (K:=7050000) (j:=100006) (by simp +decide only [LN,F,reduceIte,Nat.reduceAdd,qB,qC,EN, *,-h];rfl) rfl (by simp +decide only [LN,F,reduceIte,Nat.reduceAdd,qB,qC,EN, *,-h];rfl) qe)) ?_
  refine BL (λm s=>∃v4:Int,∃ae:List M.aAL,∃aa:Nat,s.t 0 = .v false [.bp 7059000 1 0]/\s.t 2 = .v false [.bp 2 ((s1.h 2).1+1) 0]/\s.t 3 = .v false [.bp 3 ((s1.h 3).1+1) 0]/\s.t 4 = .v false [.dat (.int .i64 v4)]/\s.h 2=(((s1.h 2).1+1),.box 31 [.nil])/\s.h 3=(((s1.h 3).1+1),.box 31 [.row 7050000 aa])/\s.h 7050000=(aa,.row 193 2 (List.map M.aAL.en ae) true)/\s.h 7059000=(1,.box 182 [.old B0 (.sl (List.map enB p0.b)) (some u0),.dat (.int .i64 af.1),.dat (.int .i64 af.2.1)])/\nN af m v4 ae=some r) fuel ?_ ?_
  ·refine ⟨1,x4.2.2.aAE,((s16.h 7050000).1+1),?_,?_,?_,?_,?_,?_,?_,?_,h⟩;all_goals simp +decide only [LN,F,reduceIte,Nat.reduceAdd,qB,qC,EN,M.aAL.en, *,-h]
  rintro mL1 bh ⟨v4,ae,aa,f56,f57,f58,f59,f60,f61,f62,f63,h⟩
  rcases mL1 with _ | mL1
  ·exact absurd h (by simp [nN])
  simp only [nN] at h
  refine sq (sq ?_)
  apply bW
  ·simp +decide only [LN,E,reduceIte,Nat.reduceAdd,Nat.reduceMul,qB,qC,L,EN, *,-h];exact Is.mk _
  refine an ?_
  rcases zD (decide (v4<=4)) with al | al
  ·replace h:=cE al h;refine Ca (by simp +decide only [LN,F,reduceIte,Nat.reduceAdd,qB,qC,EN, *,-h]) ?_;refine xt (BA (Br (E7 (ab (an (sq ?_))))));apply bW;(simp +decide only [LN,E,reduceIte,Nat.reduceAdd,Nat.reduceMul,qB,qC,L,yY,EN, *,-h];exact Is.mk _);refine an (rt ?_);cases h;simp [Iw,Ret,TB,EN, *]
  replace h:=cF al h
  refine Bo (by simp +decide only [LN,F,reduceIte,Nat.reduceAdd,qB,qC,EN, *,-h]) ?_
  refine sk (an (sq (bk ?_)))
  obtain ⟨ax,ay,h⟩:=bind_some h
  apply bW
  ·simp +decide only [LN,E,reduceIte,Nat.reduceAdd,Nat.reduceMul,qB,qC,L,yY,EN, *,-h]
   refine ⟨_,Va _ _ _ ay,?_⟩
   try simp +decide only [LN,E,reduceIte,Nat.reduceAdd,Nat.reduceMul,qB,qC,L,yY,EN, *,-h]
   exact Is.mk _
  refine ab (an ?_)
  apply bW
  ·simp +decide only [LN,E,reduceIte,Nat.reduceAdd,Nat.reduceMul,qB,qC,L,EN, *,-h];exact Is.mk _
  refine gF ⟨_,(Gho.R9 (b:=3) (c:=0) (K:=7050000) (j:=100052) (by simp +decide only [LN,F,reduceIte,Nat.reduceAdd,qB,qC,EN, *,-h];rfl) rfl (by simp +decide only [LN,F,reduceIte,Nat.reduceAdd,qB,qC,EN, *,-h];rfl) qe),mL1,qb,(IntKind.i64.wrap (v4+1)),ax.1.aAE,(aa+1),?_,?_,?_,?_,?_,?_,?_,?_,h⟩
  all_goals simp +decide only [LN,F,reduceIte,Nat.reduceAdd,qB,qC,EN,M.aAL.en, *,-h]
 replace h:=cF aj h
 refine Bo (by simp +decide only [LN,F,reduceIte,Nat.reduceAdd,qB,qC,EN, *,-h]) ?_
 refine sq ?_
 apply bW
 ·simp +decide only [LN,E,reduceIte,Nat.reduceAdd,Nat.reduceMul,qB,qC,L,M9,yY,EN, *,-h];exact Is.mk _
 refine an ?_
 rcases zD (decide ((List.length x4.2.2.aAE:Int)>0)) with ao | ao
 ·replace h:=cE ao h;refine Ca (by simp +decide only [LN,F,reduceIte,Nat.reduceAdd,qB,qC,EN, *,-h]) ?_;refine sk (ab (an (sq ?_)));apply bW;(simp +decide only [LN,E,reduceIte,Nat.reduceAdd,Nat.reduceMul,qB,qC,L,yY,EN, *,-h];exact Is.mk _);refine an (rt ?_);cases h;simp [Iw,Ret,TB,EN, *]
 replace h:=cF ao h
 refine Bo (by simp +decide only [LN,F,reduceIte,Nat.reduceAdd,qB,qC,EN, *,-h]) ?_
 obtain ⟨ah,az,h⟩:=bind_some h
 obtain ⟨bj,aq,bl⟩:=tT az
 refine Ma [0,2,3] [2,3,7059000] (i:=100006) (ver:=((s1.h 100006).1+1)) (e:=193) (sz:=2) (xs:=List.map M.aAL.en x4.2.2.aAE) (j:=(0:Int).toNat) (x:=M.aAL.en ah) (off:=1) (K:=7057000) (e':=195) (sz':=7) (ys:=List.map M.aAR.en ah.aAN) (by first | (simp +decide only [LN,F,reduceIte,Nat.reduceAdd,qB,qC,EN,M.aAL.en, *,-h];done) | (simp +decide only [LN,F,reduceIte,Nat.reduceAdd,qB,qC,EN,M.aAL.en, *,-h];rfl) | rfl) ?_ rfl ?_ hw0.2.1 (.inr qe) hw0.2.2 qe qe qe ?_ ?_ λu => ?_
 ·rw [List.getElem?_map,aq];rfl
 ·rw [<-(dD CQ).sl];rfl
 ·simp +decide only [LC,hw0.1,LN,F,reduceIte,Nat.reduceAdd,qB,qC,EN,M.aAL.en, *,-h]
 ·simp +decide only [LC,hw0.1,LN,F,reduceIte,Nat.reduceAdd,qB,qC,EN,M.aAL.en, *,-h]
 have bm:(List.set (List.map M.aAL.en x4.2.2.aAE) (0:Int).toNat [.int .i64 ah.aAB,.val u])[(0:Int).toNat]? = some [.int .i64 ah.aAB,.val u]:=Qg (b:=M.aAL.en ah) (by rw [List.getElem?_map,aq];rfl)
 refine eJ (J:=λs=>s.t 0 = .v false [.bp 7059000 1 0]/\s.t 2 = .v false [.bp 2 ((s1.h 2).1+1) 0]/\s.t 3 = .v false [.bp 3 ((s1.h 3).1+1) 0]/\s.h 2=(((s1.h 2).1+1),.box 31 [.nil])/\s.h 3=(((s1.h 3).1+1),.box 31 [.row 100006 ((s1.h 100006).1+1)])/\s.h 100006=(((s1.h 100006).1+1),.row 193 2 (List.set (List.map M.aAL.en x4.2.2.aAE) (0:Int).toNat [.int .i64 ah.aAB,.val u]) true)/\s.h 7057000=(((s16.h 7057000).1+1),.row 195 7 (List.map M.aAR.en ah.aAN) true)/\s.h 7058000=(((s16.h 7058000).1+1),.pin 7057000 ((s16.h 7057000).1+1) u)/\s.h 7059000=(1,.box 182 [.old B0 (.sl (List.map enB p0.b)) (some u0),.dat (.int .i64 af.1),.dat (.int .i64 af.2.1)])/\True) ?_ ?_
 ·and_intros<;>(try first | (simp +decide only [LN,F,reduceIte,Nat.reduceAdd,qB,qC,EN,M.aAL.en,M.aAR.en, *,-h];done) | (simp +decide only [LN,F,reduceIte,Nat.reduceAdd,qB,qC,EN,M.aAL.en,M.aAR.en, *,-h];rfl) | rfl)
 rintro bn f39
 obtain ⟨bo,b7,h⟩:=bind_some h
 obtain ⟨bq,ba,h⟩:=bind_some h
 obtain ⟨br,bd,h⟩:=bind_some h
 apply tP mixed
 ·simp +decide only [LN,E,reduceIte,Nat.reduceAdd,Nat.reduceMul,qB,qC,L,ti9,M9,yY,U8,Ko,CQ,Il,M.aAL.en,M.aAR.en,enS,EN, *,-h]
  have hc:=c82 _ _ _ b7
  simp only [List.map_append,List.map_cons,List.map_nil,M.aAL.en,M.aAR.en,enS] at hc
  refine ⟨_,hc,?_⟩
  try simp +decide only [LN,E,reduceIte,Nat.reduceAdd,Nat.reduceMul,qB,qC,L,ti9,M9,yY,U8,Ko,CQ,Il,M.aAL.en,M.aAR.en,enS,EN, *,-h]
  refine ⟨_,V6 _ _ ba,?_⟩
  try simp +decide only [LN,E,reduceIte,Nat.reduceAdd,Nat.reduceMul,qB,qC,L,ti9,M9,yY,U8,Ko,CQ,Il,M.aAL.en,M.aAR.en,enS,EN, *,-h]
  refine ⟨by (have hb:=fJ bd);simp [M.aAL.en,M.aAR.en,enS,qE,aP] at hb ⊢ <;> omega,?_⟩
  try simp +decide only [LN,E,reduceIte,Nat.reduceAdd,Nat.reduceMul,qB,qC,L,ti9,M9,yY,U8,Ko,CQ,Il,M.aAL.en,M.aAR.en,enS,EN, *,-h]
  exact ⟨.mk qf,Is.mk _⟩
 refine ab (an (sq ?_))
 apply bW
 ·simp +decide only [LN,E,reduceIte,Nat.reduceAdd,Nat.reduceMul,qB,qC,L,yY,EN, *,-h];exact Is.mk _
 refine an (rt ?_)
 cases h
 simp [Iw,Ret,TB,EN, *]
instance:cA 124 (type_of% @XY):=⟨@XY⟩
theorem Xb (p0 p1 r) (h:Ag p0 p1=some r):Sc 287 [(false,[.ptr [.sl (List.map enB p0.b),.int .i64 p0.i,.int .i64 p0.h]]),aI p1] [(false,[.edit (.lend 182 [.int .i64 r.1,.int .i64 r.2.1])]),rW 257 7 M.Op.en r.2.2]:=by
 unfold Ag at h
 simp only [EN]
 refine sgB 22 [.tmp 4] Tryz.func287 λbase wd B0 u0 hw0 => ?_
 refine eJ (J:=λs=>s.t 0=vP 7059000 1 0/\s.t 1=vI p1/\s.h 7059000=(1,oB 182 [.old B0 (.sl (List.map enB p0.b)) (some u0),cI p0.i,cI p0.h])/\True) ?_ ?_
 ·and_intros<;>(try simp only [LN,List.map_cons,List.map_nil])<;>rfl
 rintro s1 f2
 have i1:=inv λm s=>∃v6:Int,∃r7:List M.Op,∃aa:Int,∃ae:Int,∃u7:Nat,(s.t 0=vP 7059000 1 0/\s.t 5=vR 100007 u7/\s.t 6=vI v6/\s.h 100007=(u7,oW 257 7 M.Op.en r7)/\s.h 7059000=(1,oB 182 [.old B0 (.sl (List.map enB p0.b)) (some u0),cI aa,cI ae]))/\pJ p0 m v6 r7 aa ae=some r
 have e1:=@pJ.eq_2
 exact sgX
instance:cA 287 (type_of% @Xb):=⟨@Xb⟩
theorem Xq (p0 p1 r) (h:cN p0 p1=some r):Sc 293 [aX (M.aAI.en p0),aX (M.bA.en p1)] [(true,M.aAI.rs r.1),rI r.2]:=by unfold cN at h;exact sgo 70 [.cell 4 137,.tmp 5] Tryz.func293
instance:cA 293 (type_of% @Xq):=⟨@Xq⟩
theorem YT (p0 p1 r) (h:vA p0 p1=some r):Sc 299 [aX (M.aA.en p0),aX (M.aC.en p1)] [(true,M.aA.rs r.1),(true,M.Key.rs r.2.1),rB r.2.2]:=by unfold vA at h;exact sgo 34 [.cell 4 40,.cell 5 209,.tmp 6] Tryz.func299
instance:cA 299 (type_of% @YT):=⟨@YT⟩
theorem XG (p0 r) (h:xY p0=some r):Sc 220 [(false,[.ptr [.sl (List.map enB p0.b),.int .i64 p0.i,.int .i64 p0.h]])] [(false,[.edit (.lend 182 [.int .i64 r.1,.int .i64 r.2.1])]),(true,M.aH.rs r.2.2)]:=by
 unfold xY at h
 simp only [EN]
 refine sgB 58 [.cell 2 43] Tryz.func220 λbase wd B0 u0 hw0 => ?_
 refine eJ (J:=λs=>s.t 0=vP 7059000 1 0/\s.h 7059000=(1,oB 182 [.old B0 (.sl (List.map enB p0.b)) (some u0),cI p0.i,cI p0.h])/\True) ?_ ?_
 ·and_intros<;>(try simp only [LN,List.map_cons,List.map_nil])<;>rfl
 rintro s1 f2
 have i1:=DW [.b 3 2 7050000 211 7] λm s=>∃ai:Int,∃aj:Int,∃aa:Int,∃ae:Int,∃af:List M.bA,∃ah:Nat,(s.t 0=vP 7059000 1 0/\s.t 2=vP 2 ((s1.h 2).1+1) 0/\s.t 3=vP 3 ((s1.h 3).1+1) 0/\s.h 2=(((s1.h 2).1+1),oB 43 [cI 0,cI 0,.nil])/\s.h 3=(((s1.h 3).1+1),oB 43 [cI ai,cI aj,.row 7050000 ah])/\s.h 7050000=(ah,oW 211 7 M.bA.en af)/\s.h 7059000=(1,oB 182 [.old B0 (.sl (List.map enB p0.b)) (some u0),cI aa,cI ae]))/\rC p0 m ai aj aa ae af=some r
 have e1:=@rC.eq_2
 exact sgX
instance:cA 220 (type_of% @XG):=⟨@XG⟩
theorem XP (p0 r) (h:xD p0=some r):Sc 144 [(false,[.ptr [.sl (List.map enB p0.b),.int .i64 p0.i,.int .i64 p0.h]])] [(false,[.edit (.lend 182 [.int .i64 r.1,.int .i64 r.2.1])]),(true,M.bV.rs r.2.2)]:=by
 unfold xD at h
 simp only [EN]
 refine sgB 46 [.cell 2 96] Tryz.func144 λbase wd B0 u0 hw0 => ?_
 refine eJ (J:=λs=>s.t 0=vP 7059000 1 0/\s.h 7059000=(1,oB 182 [.old B0 (.sl (List.map enB p0.b)) (some u0),cI p0.i,cI p0.h])/\True) ?_ ?_
 ·and_intros<;>(try simp only [LN,List.map_cons,List.map_nil])<;>rfl
 rintro s1 f2
 refine sq (rn ?_)
 refine an (sq ?_)
 obtain ⟨x4,h5,h⟩:=bind_some h
 refine rn1 (Ug _ _ h5) ?_
 refine an (sq ?_)
 refine cu (λs=>s.t 0=vP 7059000 1 0/\s.t 2=vP 2 ((s1.h 2).1+1) 0/\s.t 3=vS x4.2.2/\s.h 2=(((s1.h 2).1+1),RE)/\s.h 7059000=(1,oB 182 [.old B0 (.sl (List.map enB p0.b)) (some u0),cI x4.1,cI x4.2.1])/\True) ?_
 rintro s6 f7
 refine rn ?_
 refine an ?_
 obtain ⟨bl,bm,h⟩:=bind_some h
 refine sJ (λs=>s.t 0=vP 7059000 1 0/\s.t 2=vP 2 ((s1.h 2).1+1) 0/\s.t 3=vS x4.2.2/\s.t 4=vS bl.1/\s.h 2=(((s1.h 2).1+1),RE)/\s.h 7059000=(1,oB 182 [.old B0 (.sl (List.map enB p0.b)) (some u0),cI bl.2.1,cI bl.2.2])/\True) ?_ ?_
 ·replace h:=bm;clear bm;refine sq ?_;obtain ⟨bh,bu,h⟩:=bind_some h;refine rn1 (c75 _ _ _ bu) ?_;refine an ?_;refine cu (λs=>s.t 0=vP 7059000 1 0/\s.t 2=vP 2 ((s1.h 2).1+1) 0/\s.t 3=vS x4.2.2/\s.t 4=vS x4.2.2/\s.t 12=vB bh.2.2/\s.h 2=(((s1.h 2).1+1),RE)/\s.h 7059000=(1,oB 182 [.old B0 (.sl (List.map enB p0.b)) (some u0),cI bh.1,cI bh.2.1])/\True) ?_;rintro ck f24;rcases zD bh.2.2 with bn | bn;(replace h:=cE bn h;refine cf (sk ?_);cases h;refine gF ⟨?_,?_,?_,?_,?_,?_,trivial⟩<;>(try simp +decide only [F,reduceIte,Nat.reduceAdd,qB,qC,EN, *,-h]));replace h:=cF bn h;refine ct ?_;obtain ⟨cl,bw,h⟩:=bind_some h;refine rn1 (Ug _ _ bw) ?_;cases h;refine gF ⟨?_,?_,?_,?_,?_,?_,trivial⟩<;>(try simp +decide only [F,reduceIte,Nat.reduceAdd,qB,qC,EN, *,-h])
 clear bm
 rintro ai f15
 refine sq ?_
 obtain ⟨cn,bx,h⟩:=bind_some h
 obtain ⟨cp,bz,h⟩:=bind_some h
 obtain ⟨bt,c9,h⟩:=bind_some h
 obtain ⟨af,ca,h⟩:=bind_some h
 refine rn4 (c65 _ _ _ bx) (c65 _ _ _ bz) (c77 _ _ c9) (c76 _ _ _ _ _ _ ca) ?_
 refine an (sq (sq ?_))
 refine cu (λs=>s.t 0=vP 7059000 1 0/\s.t 2=vP 2 ((s1.h 2).1+1) 0/\s.t 5=vP 5 ((ai.h 5).1+1) 0/\s.h 2=(((s1.h 2).1+1),RE)/\s.h 5=(((ai.h 5).1+1),oB 96 [cI af.1.Id,cS af.1.aAO,cS af.1.Top,cI af.1.aAB,.row 500026 ((ai.h 500026).1+1),.row 600026 ((ai.h 600026).1+1),cI af.1.aAJ.Pc,.row 800026 ((ai.h 800026).1+1),cI af.1.aAJ.aAy,cB af.1.aAJ.aA6,cB af.1.aAJ.aA7])/\s.h 500026=(((ai.h 500026).1+1),oW 98 2 M.aU.en af.1.aU)/\s.h 600026=(((ai.h 600026).1+1),oW 216 4 M.Instr.en af.1.aAJ.aAp)/\s.h 800026=(((ai.h 800026).1+1),oW 3 1 enI af.1.aAJ.aA1)/\s.h 7059000=(1,oB 182 [.old B0 (.sl (List.map enB p0.b)) (some u0),cI bt.1,cI bt.2.1])/\True) ?_
 rintro cc f43
 obtain ⟨bf,cd,h⟩:=bind_some h
 refine rn1 (c65 _ _ _ cd) ?_
 refine an (bk ?_)
 refine cu (λs=>s.h 5=cc.h 5/\s.t 0=vP 7059000 1 0/\s.t 2=vP 2 ((s1.h 2).1+1) 0/\s.t 5=vP 5 ((ai.h 5).1+1) 0/\s.t 7=vI bf.2.2/\s.h 2=(((s1.h 2).1+1),RE)/\s.h 500026=(((ai.h 500026).1+1),oW 98 2 M.aU.en af.1.aU)/\s.h 600026=(((ai.h 600026).1+1),oW 216 4 M.Instr.en af.1.aAJ.aAp)/\s.h 800026=(((ai.h 800026).1+1),oW 3 1 enI af.1.aAJ.aA1)/\s.h 7059000=(1,oB 182 [.old B0 (.sl (List.map enB p0.b)) (some u0),cI bf.1,cI bf.2.1])/\True) ?_
 rintro bo ⟨f60,f55⟩
 replace f60:=f60.trans f43.2.2.2.2.1
 refine Dc ((Gho.trans (Gho.trans (ghB 5 4 7050000 500026) (ghB 5 5 7050001 600026)) (ghB 5 7 7050002 800026))) ?_
 refine BL (λm s=>∃v7:Int,∃aw:Int,∃ax:ByteArray,∃ay:ByteArray,∃az:Int,∃b7:Int,∃ba:Int,∃bd:Bool,∃av:Bool,∃aa:Int,∃ae:Int,∃aj:List M.aU,∃ak:List M.Instr,∃al:List Int,∃ao:Nat,∃aq:Nat,∃ar:Nat,s.t 0=vP 7059000 1 0/\s.t 2=vP 2 ((s1.h 2).1+1) 0/\s.t 5=vP 5 ((ai.h 5).1+1) 0/\s.t 7=vI v7/\s.h 2=(((s1.h 2).1+1),RE)/\s.h 5=(((ai.h 5).1+1),oB 96 [cI aw,cS ax,cS ay,cI az,.row 7050000 ao,.row 7050001 aq,cI b7,.row 7050002 ar,cI ba,cB bd,cB av])/\s.h 7050000=(ao,oW 98 2 M.aU.en aj)/\s.h 7050001=(aq,oW 216 4 M.Instr.en ak)/\s.h 7050002=(ar,oW 3 1 enI al)/\s.h 7059000=(1,oB 182 [.old B0 (.sl (List.map enB p0.b)) (some u0),cI aa,cI ae])/\lW p0 m v7 aw ax ay az b7 ba bd av aa ae aj ak al=some r) fuel ?_ ?_
 ·refine ⟨bf.2.2,af.1.Id,af.1.aAO,af.1.Top,af.1.aAB,af.1.aAJ.Pc,af.1.aAJ.aAy,af.1.aAJ.aA6,af.1.aAJ.aA7,bf.1,bf.2.1,af.1.aU,af.1.aAJ.aAp,af.1.aAJ.aA1,((bo.h 7050000).1+1),((bo.h 7050001).1+1),((bo.h 7050002).1+1),?_,?_,?_,?_,?_,?_,?_,?_,?_,?_,h⟩;all_goals simp +decide only [F,reduceIte,Nat.reduceAdd,qB,qC,EN, *,-h]
 rintro mL1 bg ⟨v7,aw,ax,ay,az,b7,ba,bd,av,aa,ae,aj,ak,al,ao,aq,ar,f66,f67,f68,f69,f70,f71,f72,f73,f74,f75,h⟩
 rcases mL1 with _ | mL1
 ·exact absurd h (by simp [lW])
 simp only [lW] at h
 refine sq (sq (rn ?_))
 refine an ?_
 rcases zD (decide (v7>0)) with bq | bq
 ·replace h:=cE bq h;refine cf (xt (BA (Br (E7 (an (sq (rn ?_)))))));refine an (rt ?_);cases h;simp [Iw,Ret,TB,EN, *]
 replace h:=cF bq h
 refine ct (sk (an (sq (bk ?_))))
 obtain ⟨bj,cg,h⟩:=bind_some h
 obtain ⟨ah,cj,h⟩:=bind_some h
 refine rd2 mixed (VK _ _ cg) (ZH _ _ _ _ cj) ?_
 refine ab (an ?_)
 refine cu (λs=>s.t 0=vP 7059000 1 0/\s.t 2=vP 2 ((s1.h 2).1+1) 0/\s.t 5=vP 5 ((ai.h 5).1+1) 0/\s.t 7=vI v7/\s.h 2=(((s1.h 2).1+1),RE)/\s.h 5=(((ai.h 5).1+1),oB 96 [cI ah.1.Id,cS ah.1.aAO,cS ah.1.Top,cI ah.1.aAB,.row 500042 ((bg.h 500042).1+1),.row 600042 ((bg.h 600042).1+1),cI ah.1.aAJ.Pc,.row 800042 ((bg.h 800042).1+1),cI ah.1.aAJ.aAy,cB ah.1.aAJ.aA6,cB ah.1.aAJ.aA7])/\s.h 500042=(((bg.h 500042).1+1),oW 98 2 M.aU.en ah.1.aU)/\s.h 600042=(((bg.h 600042).1+1),oW 216 4 M.Instr.en ah.1.aAJ.aAp)/\s.h 800042=(((bg.h 800042).1+1),oW 3 1 enI ah.1.aAJ.aA1)/\s.h 7059000=(1,oB 182 [.old B0 (.sl (List.map enB p0.b)) (some u0),cI bj.1,cI bj.2.1])/\True) ?_
 rintro br f82
 refine rn ?_
 refine gF ⟨_,(Gho.trans (Gho.trans (ghB 5 4 7050000 500042) (ghB 5 5 7050001 600042)) (ghB 5 7 7050002 800042)),mL1,qb,(IntKind.i64.wrap (v7-1)),ah.1.Id,ah.1.aAO,ah.1.Top,ah.1.aAB,ah.1.aAJ.Pc,ah.1.aAJ.aAy,ah.1.aAJ.aA6,ah.1.aAJ.aA7,bj.1,bj.2.1,ah.1.aU,ah.1.aAJ.aAp,ah.1.aAJ.aA1,((br.h 7050000).1+1),((br.h 7050001).1+1),((br.h 7050002).1+1),?_,?_,?_,?_,?_,?_,?_,?_,?_,?_,h⟩
 all_goals simp +decide only [F,reduceIte,Nat.reduceAdd,qB,qC,EN, *,-h]
instance:cA 144 (type_of% @XP):=⟨@XP⟩
theorem Ze (p0 r) (h:vF p0=some r):Sc 256 [(false,[.ptr [.sl (List.map enB p0.b),.int .i64 p0.i,.int .i64 p0.h]])] [(false,[.edit (.lend 182 [.int .i64 r.1,.int .i64 r.2.1])]),(true,M.bA.rs r.2.2)]:=by
 unfold vF at h
 simp only [EN]
 refine sgB 46 [.cell 2 211] Tryz.func256 λbase wd B0 u0 hw0 => ?_
 refine eJ (J:=λs=>s.t 0=vP 7059000 1 0/\s.h 7059000=(1,oB 182 [.old B0 (.sl (List.map enB p0.b)) (some u0),cI p0.i,cI p0.h])/\True) ?_ ?_
 ·and_intros<;>(try simp only [LN,List.map_cons,List.map_nil])<;>rfl
 rintro s1 f2
 exact sgX
instance:cA 256 (type_of% @Ze):=⟨@Ze⟩
end Go.Proofs.YtipmihbgjolaaaaGreat.gen
