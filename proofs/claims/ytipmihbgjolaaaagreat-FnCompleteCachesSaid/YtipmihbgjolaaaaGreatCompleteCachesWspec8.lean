/-
  Helper text. No conditions.
-/
import Derived.Test.YtipmihbgjolaaaaGreatCompleteCachesTi
import Derived.Test.YtipmihbgjolaaaaGreatCompleteCachesWspec0
import Derived.Test.YtipmihbgjolaaaaGreatCompleteCachesWspec1
import Derived.Test.YtipmihbgjolaaaaGreatCompleteCachesWspec2
import Derived.Test.YtipmihbgjolaaaaGreatCompleteCachesWspec3
import Derived.Test.YtipmihbgjolaaaaGreatCompleteCachesWspec4
import Derived.Test.YtipmihbgjolaaaaGreatCompleteCachesWspec5
import Derived.Test.YtipmihbgjolaaaaGreatCompleteCachesWspec6
import Derived.Test.YtipmihbgjolaaaaGreatCompleteCachesWspec7
set_option linter.unusedVariables false
set_option linter.unusedSimpArgs false
namespace Go.Proofs.YtipmihbgjolaaaaGreat.gen
open Go Go.Sh
set_option maxRecDepth 20000
set_option maxHeartbeats 4000000
theorem aER (p0 p1 p2 r) (h:iT p0 p1 p2=some r):Sc 115 [aX (M.aGl.en p0),aS p1,aI p2] [(true,M.aGm.rs r)]:=by unfold iT at h;exact sgo 32 [.cell 6 105] Tryz.func115
instance:bF 115 (type_of% @aER):=⟨@aER⟩
theorem aD8 (p0 r) (h:yB p0=some r):Sc 124 [(false,[.ptr [.sl (List.map enB p0.b),.int .i64 p0.i,.int .i64 p0.h]])] [(false,[.edit (.lend 182 [.int .i64 r.1,.int .i64 r.2.1])]),(true,M.aC.rs r.2.2)]:=by
 unfold yB at h
 simp only [EN]
 refine sgB 56 [.cell 2 31] Tryz.func124 λbase wd B0 u0 hw0 => ?_
 refine eA (J:=λs=>s.t 0 = .v false [.bp 7059000 1 0]/\s.h 7059000=(1,.box 182 [.old B0 (.sl (List.map enB p0.b)) (some u0),.dat (.int .i64 p0.i),.dat (.int .i64 p0.h)])/\True) ?_ ?_
 ·and_intros<;>(try simp only [LN,List.map_cons,List.map_nil])<;>rfl
 rintro s1 f2
 refine sq ?_
 apply bY
 ·simp +decide only [LN,E,reduceIte,Nat.reduceAdd,Nat.reduceMul,qB,qC,L,Bs,EN,f2];exact Is.mk _
 refine an (sq ?_)
 obtain ⟨x4,h5,h⟩:=bind_some h
 apply bY
 ·simp +decide only [LN,E,reduceIte,Nat.reduceAdd,Nat.reduceMul,qB,qC,L,Bs,EN,f2]
  refine ⟨_,aGO _ _ h5,?_⟩
  try simp +decide only [LN,E,reduceIte,Nat.reduceAdd,Nat.reduceMul,qB,qC,L,Bs,EN,f2]
  exact Is.mk _
 refine an (sq (sq ?_))
 refine eA (J:=λs=>s.t 0 = .v false [.bp 7059000 1 0]/\s.t 2 = .v false [.bp 2 ((s1.h 2).1+1) 0]/\s.t 3 = .v false [.bp 3 ((s1.h 3).1+1) 0]/\s.h 2=(((s1.h 2).1+1),.box 31 [.nil])/\s.h 3=(((s1.h 3).1+1),.box 31 [.row 100006 ((s1.h 100006).1+1)])/\s.h 100006=(((s1.h 100006).1+1),.row 193 2 (List.map M.aGo.en x4.2.2.aGi) true)/\s.h 7059000=(1,.box 182 [.old B0 (.sl (List.map enB p0.b)) (some u0),.dat (.int .i64 x4.1),.dat (.int .i64 x4.2.1)])/\True) ?_ ?_
 ·and_intros<;>(try simp +decide only [LN,F,reduceIte,Nat.reduceAdd,qB,qC,EN,M.aGo.en,f2])
 rintro s6 f7
 obtain ⟨af,ar,h⟩:=bind_some h
 apply bY
 ·simp +decide only [LN,E,reduceIte,Nat.reduceAdd,Nat.reduceMul,qB,qC,L,EN, *,-h]
  refine ⟨_,c65 _ _ _ ar,?_⟩
  try simp +decide only [LN,E,reduceIte,Nat.reduceAdd,Nat.reduceMul,qB,qC,L,EN, *,-h]
  exact Is.mk _
 refine an (bk (sq ?_))
 refine eA (J:=λs=>s.t 0 = .v false [.bp 7059000 1 0]/\s.t 2 = .v false [.bp 2 ((s1.h 2).1+1) 0]/\s.t 3 = .v false [.bp 3 ((s1.h 3).1+1) 0]/\s.t 8 = .v false [.dat (.int .i64 af.2.2)]/\s.h 2=(((s1.h 2).1+1),.box 31 [.nil])/\s.h 3=(((s1.h 3).1+1),.box 31 [.row 100006 ((s1.h 100006).1+1)])/\s.h 100006=(((s1.h 100006).1+1),.row 193 2 (List.map M.aGo.en x4.2.2.aGi) true)/\s.h 7059000=(1,.box 182 [.old B0 (.sl (List.map enB p0.b)) (some u0),.dat (.int .i64 af.1),.dat (.int .i64 af.2.1)])/\True) ?_ ?_
 ·and_intros<;>(try simp +decide only [LN,F,reduceIte,Nat.reduceAdd,qB,qC,EN,M.aGo.en, *,-h])
 rintro s16 f17
 apply bY
 ·simp +decide only [LN,E,reduceIte,Nat.reduceAdd,Nat.reduceMul,qB,qC,L,EN, *,-h];exact Is.mk _
 refine an ?_
 rcases oQ (af.2.2==0) with ai | ai
 ·replace h:=cT ai h
  refine Dg (by simp +decide only [LN,F,reduceIte,Nat.reduceAdd,qB,qC,EN, *,-h]) ?_
  obtain ⟨bg,av,h⟩:=bind_some h
  obtain ⟨bh,aw,h⟩:=bind_some h
  apply Bv mixed
  ·simp +decide only [LN,E,reduceIte,Nat.reduceAdd,Nat.reduceMul,qB,qC,L,ti3,N1,Bs,Zw,DV,M.aGo.en,enI,EN, *,-h]
   have hc:=c69 _ _ _ av
   simp only [List.map_append,List.map_cons,List.map_nil,M.aGo.en,enI] at hc
   refine ⟨_,hc,?_⟩
   try simp +decide only [LN,E,reduceIte,Nat.reduceAdd,Nat.reduceMul,qB,qC,L,ti3,N1,Bs,Zw,DV,M.aGo.en,enI,EN, *,-h]
   refine ⟨by (have hb:=gL aw);simp [M.aGo.en,enI,qE,aQ] at hb ⊢ <;> omega,?_⟩
   try simp +decide only [LN,E,reduceIte,Nat.reduceAdd,Nat.reduceMul,qB,qC,L,ti3,N1,Bs,Zw,DV,M.aGo.en,enI,EN, *,-h]
   exact ⟨.mk qf,Is.mk _⟩
  refine ab (an (sq ?_))
  apply bY
  ·simp +decide only [LN,E,reduceIte,Nat.reduceAdd,Nat.reduceMul,qB,qC,L,Bs,EN, *,-h];exact Is.mk _
  refine an (rt ?_)
  cases h
  simp [Iq,Ret,TB,EN, *]
 replace h:=cR ai h
 refine EJ (by simp +decide only [LN,F,reduceIte,Nat.reduceAdd,qB,qC,EN, *,-h]) ?_
 refine sq ?_
 apply bY
 ·simp +decide only [LN,E,reduceIte,Nat.reduceAdd,Nat.reduceMul,qB,qC,L,EN, *,-h];exact Is.mk _
 refine an ?_
 rcases CH (af.2.2==1) with aj | aj
 ·replace h:=cR aj h
  refine EJ (by simp +decide only [LN,F,reduceIte,Nat.reduceAdd,qB,qC,EN, *,-h]) ?_
  refine sq ?_
  apply bY
  ·simp +decide only [LN,E,reduceIte,Nat.reduceAdd,Nat.reduceMul,qB,qC,L,EN, *,-h];exact Is.mk _
  refine an ?_
  rcases CH (af.2.2==2) with ak | ak
  ·replace h:=cR ak h;refine EJ (by simp +decide only [LN,F,reduceIte,Nat.reduceAdd,qB,qC,EN, *,-h]) ?_;refine sk (ab (an (sq ?_)));apply bY;(simp +decide only [LN,E,reduceIte,Nat.reduceAdd,Nat.reduceMul,qB,qC,L,Bs,EN, *,-h];exact Is.mk _);refine an (rt ?_);cases h;simp [Iq,Ret,TB,EN, *]
  replace h:=cT ak h
  refine Dg (by simp +decide only [LN,F,reduceIte,Nat.reduceAdd,qB,qC,EN, *,-h]) ?_
  refine sq ?_
  apply bY
  ·simp +decide only [LN,E,reduceIte,Nat.reduceAdd,Nat.reduceMul,qB,qC,L,EN, *,-h];exact Is.mk _
  refine an (bk ?_)
  refine HM ((Gho.W8 (b:=3) (c:=0) (K:=7050000) (j:=100006) (by simp +decide only [LN,F,reduceIte,Nat.reduceAdd,qB,qC,EN, *,-h];rfl) rfl (by simp +decide only [LN,F,reduceIte,Nat.reduceAdd,qB,qC,EN, *,-h];rfl) qe)) ?_
  refine Ge (λm s=>∃v4:Int,∃ae:List M.aGo,∃aa:Nat,s.t 0 = .v false [.bp 7059000 1 0]/\s.t 2 = .v false [.bp 2 ((s1.h 2).1+1) 0]/\s.t 3 = .v false [.bp 3 ((s1.h 3).1+1) 0]/\s.t 4 = .v false [.dat (.int .i64 v4)]/\s.h 2=(((s1.h 2).1+1),.box 31 [.nil])/\s.h 3=(((s1.h 3).1+1),.box 31 [.row 7050000 aa])/\s.h 7050000=(aa,.row 193 2 (List.map M.aGo.en ae) true)/\s.h 7059000=(1,.box 182 [.old B0 (.sl (List.map enB p0.b)) (some u0),.dat (.int .i64 af.1),.dat (.int .i64 af.2.1)])/\rR af m v4 ae=some r) fuel ?_ ?_
  ·refine ⟨1,x4.2.2.aGi,((s16.h 7050000).1+1),?_,?_,?_,?_,?_,?_,?_,?_,h⟩;all_goals simp +decide only [LN,F,reduceIte,Nat.reduceAdd,qB,qC,EN,M.aGo.en, *,-h]
  rintro mL1 bj ⟨v4,ae,aa,f56,f57,f58,f59,f60,f61,f62,f63,h⟩
  rcases mL1 with _ | mL1
  ·exact absurd h (by simp [rR])
  simp only [rR] at h
  refine sq (sq ?_)
  apply bY
  ·simp +decide only [LN,E,reduceIte,Nat.reduceAdd,Nat.reduceMul,qB,qC,L,EN, *,-h];exact Is.mk _
  refine an ?_
  rcases CH (decide (v4<=4)) with al | al
  ·replace h:=cR al h;refine EJ (by simp +decide only [LN,F,reduceIte,Nat.reduceAdd,qB,qC,EN, *,-h]) ?_;refine xt (E2 (EV (J0 (ab (an (sq ?_))))));apply bY;(simp +decide only [LN,E,reduceIte,Nat.reduceAdd,Nat.reduceMul,qB,qC,L,Bs,EN, *,-h];exact Is.mk _);refine an (rt ?_);cases h;simp [Iq,Ret,TB,EN, *]
  replace h:=cT al h
  refine Dg (by simp +decide only [LN,F,reduceIte,Nat.reduceAdd,qB,qC,EN, *,-h]) ?_
  refine sk (an (sq (bk ?_)))
  obtain ⟨ax,ay,h⟩:=bind_some h
  apply bY
  ·simp +decide only [LN,E,reduceIte,Nat.reduceAdd,Nat.reduceMul,qB,qC,L,Bs,EN, *,-h]
   refine ⟨_,aAS _ _ _ ay,?_⟩
   try simp +decide only [LN,E,reduceIte,Nat.reduceAdd,Nat.reduceMul,qB,qC,L,Bs,EN, *,-h]
   exact Is.mk _
  refine ab (an ?_)
  apply bY
  ·simp +decide only [LN,E,reduceIte,Nat.reduceAdd,Nat.reduceMul,qB,qC,L,EN, *,-h];exact Is.mk _
  refine lJ ⟨_,(Gho.W8 (b:=3) (c:=0) (K:=7050000) (j:=100052) (by simp +decide only [LN,F,reduceIte,Nat.reduceAdd,qB,qC,EN, *,-h];rfl) rfl (by simp +decide only [LN,F,reduceIte,Nat.reduceAdd,qB,qC,EN, *,-h];rfl) qe),mL1,qb,(IntKind.i64.wrap (v4+1)),ax.1.aGi,(aa+1),?_,?_,?_,?_,?_,?_,?_,?_,h⟩
  all_goals simp +decide only [LN,F,reduceIte,Nat.reduceAdd,qB,qC,EN,M.aGo.en, *,-h]
 replace h:=cT aj h
 refine Dg (by simp +decide only [LN,F,reduceIte,Nat.reduceAdd,qB,qC,EN, *,-h]) ?_
 refine sq ?_
 apply bY
 ·simp +decide only [LN,E,reduceIte,Nat.reduceAdd,Nat.reduceMul,qB,qC,L,N1,Bs,EN, *,-h];exact Is.mk _
 refine an ?_
 rcases CH (decide ((List.length x4.2.2.aGi:Int)>0)) with ao | ao
 ·replace h:=cR ao h;refine EJ (by simp +decide only [LN,F,reduceIte,Nat.reduceAdd,qB,qC,EN, *,-h]) ?_;refine sk (ab (an (sq ?_)));apply bY;(simp +decide only [LN,E,reduceIte,Nat.reduceAdd,Nat.reduceMul,qB,qC,L,Bs,EN, *,-h];exact Is.mk _);refine an (rt ?_);cases h;simp [Iq,Ret,TB,EN, *]
 replace h:=cT ao h
 refine Dg (by simp +decide only [LN,F,reduceIte,Nat.reduceAdd,qB,qC,EN, *,-h]) ?_
 obtain ⟨ah,az,h⟩:=bind_some h
 obtain ⟨bl,aq,bm⟩:=Az az
 refine Qt [0,2,3] [2,3,7059000] (i:=100006) (ver:=((s1.h 100006).1+1)) (e:=193) (sz:=2) (xs:=List.map M.aGo.en x4.2.2.aGi) (j:=(0:Int).toNat) (x:=M.aGo.en ah) (off:=1) (K:=7057000) (e':=195) (sz':=7) (ys:=List.map M.aGw.en ah.aGs) (by first | (simp +decide only [LN,F,reduceIte,Nat.reduceAdd,qB,qC,EN,M.aGo.en, *,-h];done) | (simp +decide only [LN,F,reduceIte,Nat.reduceAdd,qB,qC,EN,M.aGo.en, *,-h];rfl) | rfl) ?_ rfl ?_ hw0.2.1 (.inr qe) hw0.2.2 qe qe qe ?_ ?_ λu => ?_
 ·rw [List.getElem?_map,aq];rfl
 ·rw [<-(dP DV).sl];rfl
 ·simp +decide only [LC,hw0.1,LN,F,reduceIte,Nat.reduceAdd,qB,qC,EN,M.aGo.en, *,-h]
 ·simp +decide only [LC,hw0.1,LN,F,reduceIte,Nat.reduceAdd,qB,qC,EN,M.aGo.en, *,-h]
 have bn:(List.set (List.map M.aGo.en x4.2.2.aGi) (0:Int).toNat [.int .i64 ah.aGg,.val u])[(0:Int).toNat]? = some [.int .i64 ah.aGg,.val u]:=U7 (b:=M.aGo.en ah) (by rw [List.getElem?_map,aq];rfl)
 refine eA (J:=λs=>s.t 0 = .v false [.bp 7059000 1 0]/\s.t 2 = .v false [.bp 2 ((s1.h 2).1+1) 0]/\s.t 3 = .v false [.bp 3 ((s1.h 3).1+1) 0]/\s.h 2=(((s1.h 2).1+1),.box 31 [.nil])/\s.h 3=(((s1.h 3).1+1),.box 31 [.row 100006 ((s1.h 100006).1+1)])/\s.h 100006=(((s1.h 100006).1+1),.row 193 2 (List.set (List.map M.aGo.en x4.2.2.aGi) (0:Int).toNat [.int .i64 ah.aGg,.val u]) true)/\s.h 7057000=(((s16.h 7057000).1+1),.row 195 7 (List.map M.aGw.en ah.aGs) true)/\s.h 7058000=(((s16.h 7058000).1+1),.pin 7057000 ((s16.h 7057000).1+1) u)/\s.h 7059000=(1,.box 182 [.old B0 (.sl (List.map enB p0.b)) (some u0),.dat (.int .i64 af.1),.dat (.int .i64 af.2.1)])/\True) ?_ ?_
 ·and_intros<;>(try first | (simp +decide only [LN,F,reduceIte,Nat.reduceAdd,qB,qC,EN,M.aGo.en,M.aGw.en, *,-h];done) | (simp +decide only [LN,F,reduceIte,Nat.reduceAdd,qB,qC,EN,M.aGo.en,M.aGw.en, *,-h];rfl) | rfl)
 rintro bo f39
 obtain ⟨bq,ba,h⟩:=bind_some h
 obtain ⟨br,bd,h⟩:=bind_some h
 obtain ⟨bt,bf,h⟩:=bind_some h
 apply Bv mixed
 ·simp +decide only [LN,E,reduceIte,Nat.reduceAdd,Nat.reduceMul,qB,qC,L,ti9,N1,Bs,aAQ,Ot,DV,L1,M.aGo.en,M.aGw.en,enS,EN, *,-h]
  have hc:=c82 _ _ _ ba
  simp only [List.map_append,List.map_cons,List.map_nil,M.aGo.en,M.aGw.en,enS] at hc
  refine ⟨_,hc,?_⟩
  try simp +decide only [LN,E,reduceIte,Nat.reduceAdd,Nat.reduceMul,qB,qC,L,ti9,N1,Bs,aAQ,Ot,DV,L1,M.aGo.en,M.aGw.en,enS,EN, *,-h]
  refine ⟨_,aBa _ _ bd,?_⟩
  try simp +decide only [LN,E,reduceIte,Nat.reduceAdd,Nat.reduceMul,qB,qC,L,ti9,N1,Bs,aAQ,Ot,DV,L1,M.aGo.en,M.aGw.en,enS,EN, *,-h]
  refine ⟨by (have hb:=gL bf);simp [M.aGo.en,M.aGw.en,enS,qE,aQ] at hb ⊢ <;> omega,?_⟩
  try simp +decide only [LN,E,reduceIte,Nat.reduceAdd,Nat.reduceMul,qB,qC,L,ti9,N1,Bs,aAQ,Ot,DV,L1,M.aGo.en,M.aGw.en,enS,EN, *,-h]
  exact ⟨.mk qf,Is.mk _⟩
 refine ab (an (sq ?_))
 apply bY
 ·simp +decide only [LN,E,reduceIte,Nat.reduceAdd,Nat.reduceMul,qB,qC,L,Bs,EN, *,-h];exact Is.mk _
 refine an (rt ?_)
 cases h
 simp [Iq,Ret,TB,EN, *]
instance:bF 124 (type_of% @aD8):=⟨@aD8⟩
theorem c37 (p0 p1 p2 r) (h:sI p0 p1 p2=some r):Sc 37 [aX (M.aC.en p0),aX (M.aGl.en p1),aI p2] [rB r]:=by
 have i1:=inv λm s=>∃v7:Int,(s.t 2=vI p2/\s.t 3=vP 3 1 0/\s.t 4=vP 4 1 0/\s.t 7=vI v7/\s.h 3=(1,oX 31 (M.aC.en p0))/\s.h 4=(1,oX 85 (M.aGl.en p1)))/\dZ p0 p1 p2 m v7=some r
 have e1:=@dZ.eq_2
 unfold sI at h
 exact sgo 61 [.tmp 6] Tryz.func37
theorem c52 (p0 r) (h:fG p0=some r):Sc 52 [aX (M.aA.en p0)] [(true,M.aA.rs r)]:=by
 have i1:=D5 [.b 3 0 7050000 49 24] λm s=>∃v4:Int,∃aa:List M.aG,∃ae:Nat,(s.t 1=vP 1 1 0/\s.t 2=vP 2 1 0/\s.t 3=vP 3 1 0/\s.t 4=vI v4/\s.h 1=(1,oX 26 (M.aA.en p0))/\s.h 2=(1,oB 26 [.nil])/\s.h 3=(1,oB 26 [.row 7050000 ae])/\s.h 7050000=(ae,oW 49 24 M.aG.en aa))/\oG p0 m v4 aa=some r
 have e1:=@oG.eq_2
 unfold fG at h
 exact sgo 25 [.cell 2 26] Tryz.func52
instance:bF 52 (type_of% @c52):=⟨@c52⟩
theorem Rj (p0 r) (h:cD p0=some r):Sc 236 [aX (M.aGh.en p0)] [rB r]:=by
 have i1:=inv λm s=>∃v3:Int,(s.t 1=vP 1 1 0/\s.t 3=vI v3/\s.h 1=(1,oX 35 (M.aGh.en p0)))/\eV p0 m v3=some r
 have e1:=@eV.eq_2
 have i2:=inv λm s=>∃v4:Int,(s.t 1=vP 1 1 0/\s.t 4=vI v4/\s.h 1=(1,oX 35 (M.aGh.en p0)))/\eW p0 m v4=some r
 have e2:=@eW.eq_2
 have i3:=λ(v4:Int) (ae:M.aO) (af:Int->Option Bool)=>inv λm s=>∃aa:Int,(s.t 1=vP 1 1 0/\s.t 4=vI v4/\s.t 9=vI aa/\s.h 1=(1,oX 35 (M.aGh.en p0)))/\gR p0 v4 ae af m aa=some r
 have e3:=@gR.eq_2
 unfold cD at h
 exact sgo 124 [.tmp 2] Tryz.func236
instance:bF 236 (type_of% @Rj):=⟨@Rj⟩
theorem aFN (p0 r) (h:BP p0=some r):Sc 316 [aX (M.bW.en p0)] [rI r]:=by unfold BP at h;exact sgo 10 [.tmp 2] Tryz.func316
instance:bF 316 (type_of% @aFN):=⟨@aFN⟩
theorem aCQ (p0 r) (h:uP p0=some r):Sc 342 [aL enB p0] [rW 257 7 M.Op.en r.1,rB r.2]:=by
 have i1:=λ(x1:(Int×Int×Bool))=>inv λm s=>∃v5:Int,∃v8:Int,∃aa:List M.Op,∃ae:Nat,(s.t 0=vL enB p0/\s.t 4=vI x1.1/\s.t 5=vI v5/\s.t 7=vR 100025 ae/\s.t 8=vI v8/\s.h 100025=(ae,oW 257 7 M.Op.en aa))/\lK p0 x1 m v5 v8 aa=some r
 have e1:=@lK.eq_2
 unfold uP at h
 exact sgo 53 [.tmp 2,.tmp 3] Tryz.func342
instance:bF 342 (type_of% @aCQ):=⟨@aCQ⟩
theorem aC7 (p0 p1 r) (h:A0 p0 p1=some r):Sc 388 [aX (M.aD.en p0),aX (M.Op.en p1)] [(true,M.aD.rs r.1),rI r.2.1,rB r.2.2]:=by unfold A0 at h;exact sgo 97 [.cell 4 40,.tmp 5,.tmp 6] Tryz.func388
instance:bF 388 (type_of% @aC7):=⟨@aC7⟩
theorem aFW (p0 p1 r) (h:xN p0 p1=some r):Sc 350 [aX (M.aD.en p0),aL M.bC.en p1] [(true,M.aD.rs r)]:=by
 have i1:=D5 [.b 5 1 7050000 284 4] λm s=>∃v6:Int,∃af:ByteArray,∃ah:Int,∃aa:List M.aG1,∃ae:Nat,(s.t 1=vL M.bC.en p1/\s.t 4=vP 4 1 0/\s.t 5=vP 5 1 0/\s.t 6=vI v6/\s.h 4=(1,oB 40 [cS (⟨#[]⟩:ByteArray),.nil,cI 0])/\s.h 5=(1,oB 40 [cS af,.row 7050000 ae,cI ah])/\s.h 7050000=(ae,oW 284 4 M.aG1.en aa))/\jT p1 m v6 af ah aa=some r
 have e1:=@jT.eq_2
 unfold xN at h
 exact sgo 29 [.cell 4 40] Tryz.func350
instance:bF 350 (type_of% @aFW):=⟨@aFW⟩
theorem aC3 (p0 p1 r) (h:Cw p0 p1=some r):Sc 287 [(false,[.ptr [.sl (List.map enB p0.b),.int .i64 p0.i,.int .i64 p0.h]]),aI p1] [(false,[.edit (.lend 182 [.int .i64 r.1,.int .i64 r.2.1])]),rW 257 7 M.Op.en r.2.2]:=by
 unfold Cw at h
 simp only [EN]
 refine sgB 22 [.tmp 4] Tryz.func287 λbase wd B0 u0 hw0 => ?_
 refine eA (J:=λs=>s.t 0=vP 7059000 1 0/\s.t 1=vI p1/\s.h 7059000=(1,oB 182 [.old B0 (.sl (List.map enB p0.b)) (some u0),cI p0.i,cI p0.h])/\True) ?_ ?_
 ·and_intros<;>(try simp only [LN,List.map_cons,List.map_nil])<;>rfl
 rintro s1 f2
 have i1:=inv λm s=>∃v6:Int,∃r7:List M.Op,∃aa:Int,∃ae:Int,∃u7:Nat,(s.t 0=vP 7059000 1 0/\s.t 5=vR 100007 u7/\s.t 6=vI v6/\s.h 100007=(u7,oW 257 7 M.Op.en r7)/\s.h 7059000=(1,oB 182 [.old B0 (.sl (List.map enB p0.b)) (some u0),cI aa,cI ae]))/\uI p0 m v6 r7 aa ae=some r
 have e1:=@uI.eq_2
 exact sgX
instance:bF 287 (type_of% @aC3):=⟨@aC3⟩
theorem aDL (p0 p1 r) (h:cY p0 p1=some r):Sc 293 [aX (M.aGr.en p0),aX (M.bC.en p1)] [(true,M.aGr.rs r.1),rI r.2]:=by unfold cY at h;exact sgo 70 [.cell 4 137,.tmp 5] Tryz.func293
instance:bF 293 (type_of% @aDL):=⟨@aDL⟩
theorem aFI (p0 p1 r) (h:zR p0 p1=some r):Sc 299 [aX (M.aD.en p0),aX (M.aE.en p1)] [(true,M.aD.rs r.1),(true,M.Key.rs r.2.1),rB r.2.2]:=by unfold zR at h;exact sgo 34 [.cell 4 40,.cell 5 209,.tmp 6] Tryz.func299
instance:bF 299 (type_of% @aFI):=⟨@aFI⟩
theorem aDj (p0 r) (h:Bx p0=some r):Sc 220 [(false,[.ptr [.sl (List.map enB p0.b),.int .i64 p0.i,.int .i64 p0.h]])] [(false,[.edit (.lend 182 [.int .i64 r.1,.int .i64 r.2.1])]),(true,M.aM.rs r.2.2)]:=by
 unfold Bx at h
 simp only [EN]
 refine sgB 58 [.cell 2 43] Tryz.func220 λbase wd B0 u0 hw0 => ?_
 refine eA (J:=λs=>s.t 0=vP 7059000 1 0/\s.h 7059000=(1,oB 182 [.old B0 (.sl (List.map enB p0.b)) (some u0),cI p0.i,cI p0.h])/\True) ?_ ?_
 ·and_intros<;>(try simp only [LN,List.map_cons,List.map_nil])<;>rfl
 rintro s1 f2
 have i1:=D5 [.b 3 2 7050000 211 7] λm s=>∃ai:Int,∃aj:Int,∃aa:Int,∃ae:Int,∃af:List M.bC,∃ah:Nat,(s.t 0=vP 7059000 1 0/\s.t 2=vP 2 ((s1.h 2).1+1) 0/\s.t 3=vP 3 ((s1.h 3).1+1) 0/\s.h 2=(((s1.h 2).1+1),oB 43 [cI 0,cI 0,.nil])/\s.h 3=(((s1.h 3).1+1),oB 43 [cI ai,cI aj,.row 7050000 ah])/\s.h 7050000=(ah,oW 211 7 M.bC.en af)/\s.h 7059000=(1,oB 182 [.old B0 (.sl (List.map enB p0.b)) (some u0),cI aa,cI ae]))/\vG p0 m ai aj aa ae af=some r
 have e1:=@vG.eq_2
 exact sgX
instance:bF 220 (type_of% @aDj):=⟨@aDj⟩
theorem aDu (p0 r) (h:A7 p0=some r):Sc 144 [(false,[.ptr [.sl (List.map enB p0.b),.int .i64 p0.i,.int .i64 p0.h]])] [(false,[.edit (.lend 182 [.int .i64 r.1,.int .i64 r.2.1])]),(true,M.bJ.rs r.2.2)]:=by
 unfold A7 at h
 simp only [EN]
 refine sgB 46 [.cell 2 96] Tryz.func144 λbase wd B0 u0 hw0 => ?_
 refine eA (J:=λs=>s.t 0=vP 7059000 1 0/\s.h 7059000=(1,oB 182 [.old B0 (.sl (List.map enB p0.b)) (some u0),cI p0.i,cI p0.h])/\True) ?_ ?_
 ·and_intros<;>(try simp only [LN,List.map_cons,List.map_nil])<;>rfl
 rintro s1 f2
 refine sq (rn ?_)
 refine an (sq ?_)
 obtain ⟨x4,h5,h⟩:=bind_some h
 refine rn1 (Zs _ _ h5) ?_
 refine an (sq ?_)
 refine cu (λs=>s.t 0=vP 7059000 1 0/\s.t 2=vP 2 ((s1.h 2).1+1) 0/\s.t 3=vS x4.2.2/\s.h 2=(((s1.h 2).1+1),WB)/\s.h 7059000=(1,oB 182 [.old B0 (.sl (List.map enB p0.b)) (some u0),cI x4.1,cI x4.2.1])/\True) ?_
 rintro s6 f7
 refine rn ?_
 refine an ?_
 obtain ⟨bm,bn,h⟩:=bind_some h
 refine wT (λs=>s.t 0=vP 7059000 1 0/\s.t 2=vP 2 ((s1.h 2).1+1) 0/\s.t 3=vS x4.2.2/\s.t 4=vS bm.1/\s.h 2=(((s1.h 2).1+1),WB)/\s.h 7059000=(1,oB 182 [.old B0 (.sl (List.map enB p0.b)) (some u0),cI bm.2.1,cI bm.2.2])/\True) ?_ ?_
 ·replace h:=bn;clear bn;refine sq ?_;obtain ⟨bj,bw,h⟩:=bind_some h;refine rn1 (c75 _ _ _ bw) ?_;refine an ?_;refine cu (λs=>s.t 0=vP 7059000 1 0/\s.t 2=vP 2 ((s1.h 2).1+1) 0/\s.t 3=vS x4.2.2/\s.t 4=vS x4.2.2/\s.t 12=vB bj.2.2/\s.h 2=(((s1.h 2).1+1),WB)/\s.h 7059000=(1,oB 182 [.old B0 (.sl (List.map enB p0.b)) (some u0),cI bj.1,cI bj.2.1])/\True) ?_;rintro cl f24;rcases CH bj.2.2 with bo | bo;(replace h:=cR bo h;refine cf (sk ?_);cases h;refine lJ ⟨?_,?_,?_,?_,?_,?_,trivial⟩<;>(try simp +decide only [F,reduceIte,Nat.reduceAdd,qB,qC,EN, *,-h]));replace h:=cT bo h;refine ct ?_;obtain ⟨cn,bx,h⟩:=bind_some h;refine rn1 (Zs _ _ bx) ?_;cases h;refine lJ ⟨?_,?_,?_,?_,?_,?_,trivial⟩<;>(try simp +decide only [F,reduceIte,Nat.reduceAdd,qB,qC,EN, *,-h])
 clear bn
 rintro ai f15
 refine sq ?_
 obtain ⟨cp,bz,h⟩:=bind_some h
 obtain ⟨cq,c9,h⟩:=bind_some h
 obtain ⟨bu,ca,h⟩:=bind_some h
 obtain ⟨af,cc,h⟩:=bind_some h
 refine rn4 (c65 _ _ _ bz) (c65 _ _ _ c9) (c77 _ _ ca) (c76 _ _ _ _ _ _ cc) ?_
 refine an (sq (sq ?_))
 refine cu (λs=>s.t 0=vP 7059000 1 0/\s.t 2=vP 2 ((s1.h 2).1+1) 0/\s.t 5=vP 5 ((ai.h 5).1+1) 0/\s.h 2=(((s1.h 2).1+1),WB)/\s.h 5=(((ai.h 5).1+1),oB 96 [cI af.1.Id,cS af.1.aGl,cS af.1.Top,cI af.1.aGg,.row 500026 ((ai.h 500026).1+1),.row 600026 ((ai.h 600026).1+1),cI af.1.aGu.Pc,.row 800026 ((ai.h 800026).1+1),cI af.1.aGu.aHV,cB af.1.aGu.aHd,cB af.1.aGu.aHf])/\s.h 500026=(((ai.h 500026).1+1),oW 98 2 M.aW.en af.1.aW)/\s.h 600026=(((ai.h 600026).1+1),oW 216 4 M.Instr.en af.1.aGu.aHP)/\s.h 800026=(((ai.h 800026).1+1),oW 3 1 enI af.1.aGu.aHY)/\s.h 7059000=(1,oB 182 [.old B0 (.sl (List.map enB p0.b)) (some u0),cI bu.1,cI bu.2.1])/\True) ?_
 rintro cd f43
 obtain ⟨bg,cg,h⟩:=bind_some h
 refine rn1 (c65 _ _ _ cg) ?_
 refine an (bk ?_)
 refine cu (λs=>s.h 5=cd.h 5/\s.t 0=vP 7059000 1 0/\s.t 2=vP 2 ((s1.h 2).1+1) 0/\s.t 5=vP 5 ((ai.h 5).1+1) 0/\s.t 7=vI bg.2.2/\s.h 2=(((s1.h 2).1+1),WB)/\s.h 500026=(((ai.h 500026).1+1),oW 98 2 M.aW.en af.1.aW)/\s.h 600026=(((ai.h 600026).1+1),oW 216 4 M.Instr.en af.1.aGu.aHP)/\s.h 800026=(((ai.h 800026).1+1),oW 3 1 enI af.1.aGu.aHY)/\s.h 7059000=(1,oB 182 [.old B0 (.sl (List.map enB p0.b)) (some u0),cI bg.1,cI bg.2.1])/\True) ?_
 rintro bq ⟨f60,f55⟩
 replace f60:=f60.trans f43.2.2.2.2.1
 refine HM ((Gho.trans (Gho.trans (ghB 5 4 7050000 500026) (ghB 5 5 7050001 600026)) (ghB 5 7 7050002 800026))) ?_
 refine Ge (λm s=>∃v7:Int,∃aw:Int,∃ax:ByteArray,∃ay:ByteArray,∃az:Int,∃ba:Int,∃bd:Int,∃bf:Bool,∃av:Bool,∃aa:Int,∃ae:Int,∃aj:List M.aW,∃ak:List M.Instr,∃al:List Int,∃ao:Nat,∃aq:Nat,∃ar:Nat,s.t 0=vP 7059000 1 0/\s.t 2=vP 2 ((s1.h 2).1+1) 0/\s.t 5=vP 5 ((ai.h 5).1+1) 0/\s.t 7=vI v7/\s.h 2=(((s1.h 2).1+1),WB)/\s.h 5=(((ai.h 5).1+1),oB 96 [cI aw,cS ax,cS ay,cI az,.row 7050000 ao,.row 7050001 aq,cI ba,.row 7050002 ar,cI bd,cB bf,cB av])/\s.h 7050000=(ao,oW 98 2 M.aW.en aj)/\s.h 7050001=(aq,oW 216 4 M.Instr.en ak)/\s.h 7050002=(ar,oW 3 1 enI al)/\s.h 7059000=(1,oB 182 [.old B0 (.sl (List.map enB p0.b)) (some u0),cI aa,cI ae])/\oU p0 m v7 aw ax ay az ba bd bf av aa ae aj ak al=some r) fuel ?_ ?_
 ·refine ⟨bg.2.2,af.1.Id,af.1.aGl,af.1.Top,af.1.aGg,af.1.aGu.Pc,af.1.aGu.aHV,af.1.aGu.aHd,af.1.aGu.aHf,bg.1,bg.2.1,af.1.aW,af.1.aGu.aHP,af.1.aGu.aHY,((bq.h 7050000).1+1),((bq.h 7050001).1+1),((bq.h 7050002).1+1),?_,?_,?_,?_,?_,?_,?_,?_,?_,?_,h⟩;all_goals simp +decide only [F,reduceIte,Nat.reduceAdd,qB,qC,EN, *,-h]
 rintro mL1 bh ⟨v7,aw,ax,ay,az,ba,bd,bf,av,aa,ae,aj,ak,al,ao,aq,ar,f66,f67,f68,f69,f70,f71,f72,f73,f74,f75,h⟩
 rcases mL1 with _ | mL1
 ·exact absurd h (by simp [oU])
 simp only [oU] at h
 refine sq (sq (rn ?_))
 refine an ?_
 rcases CH (decide (v7>0)) with br | br
 ·replace h:=cR br h;refine cf (xt (E2 (EV (J0 (an (sq (rn ?_)))))));refine an (rt ?_);cases h;simp [Iq,Ret,TB,EN, *]
 replace h:=cT br h
 refine ct (sk (an (sq (bk ?_))))
 obtain ⟨bl,cj,h⟩:=bind_some h
 obtain ⟨ah,ck,h⟩:=bind_some h
 refine rd2 mixed (aA8 _ _ cj) (aBB _ _ _ _ ck) ?_
 refine ab (an ?_)
 refine cu (λs=>s.t 0=vP 7059000 1 0/\s.t 2=vP 2 ((s1.h 2).1+1) 0/\s.t 5=vP 5 ((ai.h 5).1+1) 0/\s.t 7=vI v7/\s.h 2=(((s1.h 2).1+1),WB)/\s.h 5=(((ai.h 5).1+1),oB 96 [cI ah.1.Id,cS ah.1.aGl,cS ah.1.Top,cI ah.1.aGg,.row 500042 ((bh.h 500042).1+1),.row 600042 ((bh.h 600042).1+1),cI ah.1.aGu.Pc,.row 800042 ((bh.h 800042).1+1),cI ah.1.aGu.aHV,cB ah.1.aGu.aHd,cB ah.1.aGu.aHf])/\s.h 500042=(((bh.h 500042).1+1),oW 98 2 M.aW.en ah.1.aW)/\s.h 600042=(((bh.h 600042).1+1),oW 216 4 M.Instr.en ah.1.aGu.aHP)/\s.h 800042=(((bh.h 800042).1+1),oW 3 1 enI ah.1.aGu.aHY)/\s.h 7059000=(1,oB 182 [.old B0 (.sl (List.map enB p0.b)) (some u0),cI bl.1,cI bl.2.1])/\True) ?_
 rintro bt f82
 refine rn ?_
 refine lJ ⟨_,(Gho.trans (Gho.trans (ghB 5 4 7050000 500042) (ghB 5 5 7050001 600042)) (ghB 5 7 7050002 800042)),mL1,qb,(IntKind.i64.wrap (v7-1)),ah.1.Id,ah.1.aGl,ah.1.Top,ah.1.aGg,ah.1.aGu.Pc,ah.1.aGu.aHV,ah.1.aGu.aHd,ah.1.aGu.aHf,bl.1,bl.2.1,ah.1.aW,ah.1.aGu.aHP,ah.1.aGu.aHY,((bt.h 7050000).1+1),((bt.h 7050001).1+1),((bt.h 7050002).1+1),?_,?_,?_,?_,?_,?_,?_,?_,?_,?_,h⟩
 all_goals simp +decide only [F,reduceIte,Nat.reduceAdd,qB,qC,EN, *,-h]
instance:bF 144 (type_of% @aDu):=⟨@aDu⟩
theorem aFg (p0 r) (h:zV p0=some r):Sc 256 [(false,[.ptr [.sl (List.map enB p0.b),.int .i64 p0.i,.int .i64 p0.h]])] [(false,[.edit (.lend 182 [.int .i64 r.1,.int .i64 r.2.1])]),(true,M.bC.rs r.2.2)]:=by
 unfold zV at h
 simp only [EN]
 refine sgB 46 [.cell 2 211] Tryz.func256 λbase wd B0 u0 hw0 => ?_
 refine eA (J:=λs=>s.t 0=vP 7059000 1 0/\s.h 7059000=(1,oB 182 [.old B0 (.sl (List.map enB p0.b)) (some u0),cI p0.i,cI p0.h])/\True) ?_ ?_
 ·and_intros<;>(try simp only [LN,List.map_cons,List.map_nil])<;>rfl
 rintro s1 f2
 exact sgX
instance:bF 256 (type_of% @aFg):=⟨@aFg⟩
end Go.Proofs.YtipmihbgjolaaaaGreat.gen
