/-
  Helper text. No conditions.
-/
import Derived.Test.YtipmihbgjolaaaaGreatCompleteCachesTi
import Derived.Test.YtipmihbgjolaaaaGreatCompleteCachesWspec0
import Derived.Test.YtipmihbgjolaaaaGreatCompleteCachesWspec1
import Derived.Test.YtipmihbgjolaaaaGreatCompleteCachesWspec3
set_option linter.unusedVariables false
set_option linter.unusedSimpArgs false
namespace Go.Proofs.YtipmihbgjolaaaaGreat.gen
open Go Go.Sh
set_option maxRecDepth 20000
set_option maxHeartbeats 4000000
theorem XI (p0 r) (h:cM p0=some r):Sc 235 [aX (M.aC.en p0)] [rB r]:=by
 have i1:=inv λm s=>∃v3:Int,(s.t 1=vP 1 1 0/\s.t 3=vI v3/\s.h 1=(1,oX 31 (M.aC.en p0)))/\eQ p0 m v3=some r
 have e1:=@eQ.eq_2
 unfold cM at h
 exact sgo 53 [.tmp 2] Tryz.func235
instance:bF 235 (type_of% @XI):=⟨@XI⟩
theorem aAS (p0 p1 r) (h:kY p0 p1=some r):Sc 212 [aX (M.aC.en p0),aI p1] [(true,M.aC.rs r.1),rB r.2]:=by
 have i1:=λ(x1:M.aC)=>inv λm s=>∃v7:Int,(s.t 1=vI p1/\s.t 2=vP 2 1 0/\s.t 4=vP 4 1 0/\s.t 6=vP 6 1 0/\s.t 7=vI v7/\s.h 2=(1,oX 31 (M.aC.en p0))/\s.h 4=(1,oB 31 [.nil])/\s.h 6=(1,oB 31 [.row 100010 1])/\s.h 100010=(1,oW 193 2 M.aGo.en x1.aGi))/\lR p0 p1 x1 m v7=some r
 have e1:=@lR.eq_2
 unfold kY at h
 exact sgo 57 [.cell 4 31,.tmp 5] Tryz.func212
instance:bF 212 (type_of% @aAS):=⟨@aAS⟩
theorem aCo (p0 p1 p2 p3 p4 r) (h:jP p0 p1 p2 p3 p4=some r):Sc 270 [aX (M.aC.en p0),aI p1,aS p2,aS p3,aX (M.aGm.en p4)] [(true,M.aC.rs r.1),rB r.2]:=by
 unfold jP at h
 simp only [EN]
 refine sgO 73 [.cell 10 31,.tmp 11] Tryz.func270 λbase wd => ?_
 refine sq ?_
 apply bY
 ·simp +decide only [LN,E,reduceIte,Nat.reduceAdd,Nat.reduceMul,qB,qC,L,Bs,EN];exact Is.mk _
 refine an (sq ?_)
 obtain ⟨x1,h2,h⟩:=bind_some h
 apply bY
 ·simp +decide only [LN,E,reduceIte,Nat.reduceAdd,Nat.reduceMul,qB,qC,L,Bs,EN]
  refine ⟨_,Xb _ _ h2,?_⟩
  try simp +decide only [LN,E,reduceIte,Nat.reduceAdd,Nat.reduceMul,qB,qC,L,Bs,EN]
  exact Is.mk _
 refine an (sq ?_)
 obtain ⟨x3,h4,h⟩:=bind_some h
 apply bY
 ·simp +decide only [LN,E,reduceIte,Nat.reduceAdd,Nat.reduceMul,qB,qC,L,Bs,EN]
  refine ⟨_,aAW _ _ _ h4,?_⟩
  try simp +decide only [LN,E,reduceIte,Nat.reduceAdd,Nat.reduceMul,qB,qC,L,Bs,EN]
  exact Is.mk _
 refine an (sq (sq ?_))
 apply bY
 ·simp +decide only [LN,E,reduceIte,Nat.reduceAdd,Nat.reduceMul,qB,qC,L,EN];exact Is.mk _
 refine an ?_
 rcases oQ (decide (x3<0)) with b5 | b5
 ·replace h:=cT b5 h;refine Dg (by simp +decide only [LN,F,reduceIte,Nat.reduceAdd,qB,qC,EN,b5]) ?_;refine sq ?_;apply bY;(simp +decide only [LN,E,reduceIte,Nat.reduceAdd,Nat.reduceMul,qB,qC,L,Bs,EN,b5];exact Is.mk _);refine an (rt ?_);cases h;simp [Ret,EN,Bs,M.aGo.en,b5]
 replace h:=cR b5 h
 refine EJ (by simp +decide only [LN,F,reduceIte,Nat.reduceAdd,qB,qC,EN,b5]) ?_
 refine sk (an (sq ?_))
 obtain ⟨x6,h7,h⟩:=bind_some h
 apply bY
 ·simp +decide only [LN,E,reduceIte,Nat.reduceAdd,Nat.reduceMul,qB,qC,L,YJ,L1,EN,b5]
  refine ⟨_,aBD _ _ h7,?_⟩
  try simp +decide only [LN,E,reduceIte,Nat.reduceAdd,Nat.reduceMul,qB,qC,L,YJ,L1,EN,b5]
  exact Is.mk _
 refine an (sq (sq ?_))
 obtain ⟨x8,h9,h⟩:=bind_some h
 obtain ⟨bm,aa,bn⟩:=Az h9
 obtain ⟨ae,aq,h⟩:=bind_some h
 apply bY
 ·simp +decide only [LN,E,reduceIte,Nat.reduceAdd,Nat.reduceMul,qB,qC,L,N1,Bs,DV,M.aGo.en,EN, *,-h]
  refine ⟨_,aBL _ _ _ _ aq,?_⟩
  try simp +decide only [LN,E,reduceIte,Nat.reduceAdd,Nat.reduceMul,qB,qC,L,N1,Bs,DV,M.aGo.en,EN, *,-h]
  exact Is.mk _
 refine an (sq ?_)
 apply bY
 ·simp +decide only [LN,E,reduceIte,Nat.reduceAdd,Nat.reduceMul,qB,qC,L,EN, *,-h];exact Is.mk _
 refine an ?_
 rcases CH (decide (ae>=0)) with af | af
 ·replace h:=cR af h
  refine EJ (by simp +decide only [LN,F,reduceIte,Nat.reduceAdd,qB,qC,EN, *,-h]) ?_
  refine Qt [5,10,12,13,14] [5,10,12,14,400027] (i:=100017) (ver:=1) (e:=193) (sz:=2) (xs:=List.map M.aGo.en x1.aGi) (j:=x3.toNat) (x:=M.aGo.en x8) (off:=1) (K:=7057000) (e':=195) (sz':=7) (ys:=List.map M.aGw.en x8.aGs) (by first | (simp +decide only [LN,F,reduceIte,Nat.reduceAdd,qB,qC,EN,M.aGo.en,enB, *,-h];done) | (simp +decide only [LN,F,reduceIte,Nat.reduceAdd,qB,qC,EN,M.aGo.en,enB, *,-h];rfl) | rfl) ?_ rfl ?_ rfl (.inl rfl) (λ_ h=>h.elim) qe qe qe ?_ ?_ λu => ?_
  ·rw [List.getElem?_map,aa];rfl
  ·rw [<-(dP DV).sl];rfl
  ·simp +decide only [LC,LN,F,reduceIte,Nat.reduceAdd,qB,qC,EN,M.aGo.en,enB, *,-h]
  ·simp +decide only [LC,LN,F,reduceIte,Nat.reduceAdd,qB,qC,EN,M.aGo.en,enB, *,-h]
  have bo:(List.set (List.map M.aGo.en x1.aGi) x3.toNat [.int .i64 x8.aGg,.val u])[x3.toNat]? = some [.int .i64 x8.aGg,.val u]:=U7 (b:=M.aGo.en x8) (by rw [List.getElem?_map,aa];rfl)
  refine eA (J:=λs=>s.t 5 = .v false [.bp 5 1 0]/\s.t 10 = .v false [.bp 10 1 0]/\s.t 12 = .v false [.bp 12 1 0]/\s.t 13 = .v false [.dat (.int .i64 x3)]/\s.t 14 = .v false [.bp 14 1 0]/\s.h 5=(1,.box 31 [.old base (.sl (List.map M.aGo.en p0.aGi)) none])/\s.h 10=(1,.box 31 [.nil])/\s.h 12=(1,.box 31 [.row 100017 1])/\s.h 14=(1,.box 195 [.dat (.str p2),.dat (.str p3),.dat (.int .i64 x6.aHX),.dat (.int .i64 x6.aHO),.dat (.int .i64 x6.aGg),.row 400027 1,.dat (.bool x6.aHb)])/\s.h 100017=(1,.row 193 2 (List.set (List.map M.aGo.en x1.aGi) x3.toNat [.int .i64 x8.aGg,.val u]) true)/\s.h 400027=(1,.row 5 1 (List.map enB x6.aHT) true)/\s.h 7057000=(1,.row 195 7 (List.map M.aGw.en x8.aGs) true)/\s.h 7058000=(1,.pin 7057000 1 u)/\True) ?_ ?_
  ·and_intros<;>(try first | (simp +decide only [LN,F,reduceIte,Nat.reduceAdd,qB,qC,EN,M.aGo.en,M.aGw.en,enB, *,-h];done) | (simp +decide only [LN,F,reduceIte,Nat.reduceAdd,qB,qC,EN,M.aGo.en,M.aGw.en,enB, *,-h];rfl) | rfl)
  rintro bq f57
  obtain ⟨br,ar,h⟩:=bind_some h
  apply Bv mixed
  ·simp +decide only [LN,E,reduceIte,Nat.reduceAdd,Nat.reduceMul,qB,qC,L,N1,Bs,Ot,DV,L1,M.aGo.en,M.aGw.en,EN, *,-h]
   refine ⟨by (have hb:=gL ar);simp [M.aGo.en,M.aGw.en,qE,aQ] at hb ⊢ <;> omega,?_⟩
   try simp +decide only [LN,E,reduceIte,Nat.reduceAdd,Nat.reduceMul,qB,qC,L,N1,Bs,Ot,DV,L1,M.aGo.en,M.aGw.en,EN, *,-h]
   exact ⟨.mk qf,Is.mk _⟩
  refine an (sq (sq ?_))
  refine eA (J:=λs=>s.t 5 = .v false [.bp 5 1 0]/\s.t 10 = .v false [.bp 10 1 0]/\s.t 12 = .v false [.bp 12 1 0]/\s.h 5=(1,.box 31 [.old base (.sl (List.map M.aGo.en p0.aGi)) none])/\s.h 10=(1,.box 31 [.nil])/\s.h 12=(1,.box 31 [.row 100017 1])/\s.h 100017=(1,.row 193 2 (List.map M.aGo.en (List.set x1.aGi x3.toNat (⟨x8.aGg,(x8.aGs++[(⟨p2,p3,x6⟩:M.aGw)])⟩:M.aGo))) true)/\True) ?_ ?_
  ·and_intros<;>(try simp +decide only [LN,F,reduceIte,Nat.reduceAdd,qB,qC,EN,M.aGo.en, *,-h])
  rintro bt f73
  obtain ⟨av,al,h⟩:=bind_some h
  rcases oQ (!av) with ah | ah
  ·replace h:=cT ah h
   apply bY
   ·simp +decide only [LN,E,reduceIte,Nat.reduceAdd,Nat.reduceMul,qB,qC,L,Bs,EN, *,-h]
    refine ⟨_,XI _ _ al,?_⟩
    try simp +decide only [LN,E,reduceIte,Nat.reduceAdd,Nat.reduceMul,qB,qC,L,Bs,EN, *,-h]
    exact Is.mk _
   refine an ?_
   refine Dg (by simp +decide only [LN,F,reduceIte,Nat.reduceAdd,qB,qC,EN, *,-h]) ?_
   refine sq ?_
   obtain ⟨bu,aw,h⟩:=bind_some h
   apply bY
   ·simp +decide only [LN,E,reduceIte,Nat.reduceAdd,Nat.reduceMul,qB,qC,L,Bs,EN, *,-h]
    refine ⟨_,Xb _ _ aw,?_⟩
    try simp +decide only [LN,E,reduceIte,Nat.reduceAdd,Nat.reduceMul,qB,qC,L,Bs,EN, *,-h]
    exact Is.mk _
   refine an (rt ?_)
   cases h
   simp [Ret,EN,Bs,M.aGo.en, *]
  replace h:=cR ah h
  obtain ⟨ax,ay,h⟩:=bind_some h
  apply bY
  ·simp +decide only [LN,E,reduceIte,Nat.reduceAdd,Nat.reduceMul,qB,qC,L,Bs,EN, *,-h]
   refine ⟨_,XI _ _ al,?_⟩
   try simp +decide only [LN,E,reduceIte,Nat.reduceAdd,Nat.reduceMul,qB,qC,L,Bs,EN, *,-h]
   refine ⟨_,XI _ _ ay,?_⟩
   try simp +decide only [LN,E,reduceIte,Nat.reduceAdd,Nat.reduceMul,qB,qC,L,Bs,EN, *,-h]
   exact Is.mk _
  refine an ?_
  rcases CH (!ax) with ai | ai
  ·replace h:=cR ai h;refine EJ (by simp +decide only [LN,F,reduceIte,Nat.reduceAdd,qB,qC,EN, *,-h]) ?_;refine sk (an (sq ?_));apply bY;(simp +decide only [LN,E,reduceIte,Nat.reduceAdd,Nat.reduceMul,qB,qC,L,Bs,EN, *,-h];exact Is.mk _);refine an (rt ?_);cases h;simp [Ret,EN,Bs,M.aGo.en, *]
  replace h:=cT ai h
  refine Dg (by simp +decide only [LN,F,reduceIte,Nat.reduceAdd,qB,qC,EN, *,-h]) ?_
  refine sq ?_
  obtain ⟨bw,az,h⟩:=bind_some h
  apply bY
  ·simp +decide only [LN,E,reduceIte,Nat.reduceAdd,Nat.reduceMul,qB,qC,L,Bs,EN, *,-h]
   refine ⟨_,Xb _ _ az,?_⟩
   try simp +decide only [LN,E,reduceIte,Nat.reduceAdd,Nat.reduceMul,qB,qC,L,Bs,EN, *,-h]
   exact Is.mk _
  refine an (rt ?_)
  cases h
  simp [Ret,EN,Bs,M.aGo.en, *]
 replace h:=cT af h
 refine Dg (by simp +decide only [LN,F,reduceIte,Nat.reduceAdd,qB,qC,EN, *,-h]) ?_
 refine Qt [5,10,12,13,14,15] [5,10,12,14,400027] (i:=100017) (ver:=1) (e:=193) (sz:=2) (xs:=List.map M.aGo.en x1.aGi) (j:=x3.toNat) (x:=M.aGo.en x8) (off:=1) (K:=7057000) (e':=195) (sz':=7) (ys:=List.map M.aGw.en x8.aGs) (by first | (simp +decide only [LN,F,reduceIte,Nat.reduceAdd,qB,qC,EN,M.aGo.en,enB, *,-h];done) | (simp +decide only [LN,F,reduceIte,Nat.reduceAdd,qB,qC,EN,M.aGo.en,enB, *,-h];rfl) | rfl) ?_ rfl ?_ rfl (.inl rfl) (λ_ h=>h.elim) qe qe qe ?_ ?_ λu => ?_
 ·rw [List.getElem?_map,aa];rfl
 ·rw [<-(dP DV).sl];rfl
 ·simp +decide only [LC,LN,F,reduceIte,Nat.reduceAdd,qB,qC,EN,M.aGo.en,enB, *,-h]
 ·simp +decide only [LC,LN,F,reduceIte,Nat.reduceAdd,qB,qC,EN,M.aGo.en,enB, *,-h]
 have ba:(List.set (List.map M.aGo.en x1.aGi) x3.toNat [.int .i64 x8.aGg,.val u])[x3.toNat]? = some [.int .i64 x8.aGg,.val u]:=U7 (b:=M.aGo.en x8) (by rw [List.getElem?_map,aa];rfl)
 refine eA (J:=λs=>s.t 5 = .v false [.bp 5 1 0]/\s.t 10 = .v false [.bp 10 1 0]/\s.t 12 = .v false [.bp 12 1 0]/\s.t 13 = .v false [.dat (.int .i64 x3)]/\s.t 14 = .v false [.bp 14 1 0]/\s.t 15 = .v false [.dat (.int .i64 ae)]/\s.h 5=(1,.box 31 [.old base (.sl (List.map M.aGo.en p0.aGi)) none])/\s.h 10=(1,.box 31 [.nil])/\s.h 12=(1,.box 31 [.row 100017 1])/\s.h 14=(1,.box 195 [.dat (.str p2),.dat (.str p3),.dat (.int .i64 x6.aHX),.dat (.int .i64 x6.aHO),.dat (.int .i64 x6.aGg),.row 400027 1,.dat (.bool x6.aHb)])/\s.h 100017=(1,.row 193 2 (List.set (List.map M.aGo.en x1.aGi) x3.toNat [.int .i64 x8.aGg,.val u]) true)/\s.h 400027=(1,.row 5 1 (List.map enB x6.aHT) true)/\s.h 7057000=(1,.row 195 7 (List.map M.aGw.en x8.aGs) true)/\s.h 7058000=(1,.pin 7057000 1 u)/\True) ?_ ?_
 ·and_intros<;>(try first | (simp +decide only [LN,F,reduceIte,Nat.reduceAdd,qB,qC,EN,M.aGo.en,M.aGw.en,enB, *,-h];done) | (simp +decide only [LN,F,reduceIte,Nat.reduceAdd,qB,qC,EN,M.aGo.en,M.aGw.en,enB, *,-h];rfl) | rfl)
 rintro s16 f18
 obtain ⟨bx,bd,h⟩:=bind_some h
 obtain ⟨bz,c9,ca⟩:=Az bd
 apply Bv mixed
 ·simp +decide only [LN,E,reduceIte,Nat.reduceAdd,Nat.reduceMul,qB,qC,L,N1,Bs,Ot,DV,L1,M.aGo.en,M.aGw.en,EN, *,-h];exact ⟨.mk qf,Is.mk _⟩
 refine an ?_
 refine HM (Gho.close (i:=100017) (ver:=1) (e:=193) (sz:=2) (xs:=List.set (List.map M.aGo.en x1.aGi) x3.toNat [.int .i64 x8.aGg,.val u]) (j:=x3.toNat) (x:=[.int .i64 x8.aGg,.val u]) (off:=1) (K:=7057000) (vK:=1) (e':=195) (sz':=7) (ys:=List.map M.aGw.en (List.set x8.aGs ae.toNat (⟨p2,p3,x6⟩:M.aGw))) (u:=u) (by first | (simp +decide only [LN,F,reduceIte,Nat.reduceAdd,qB,qC,EN,M.aGw.en, *,-h];done) | (simp +decide only [LN,F,reduceIte,Nat.reduceAdd,qB,qC,EN,M.aGw.en, *,-h];rfl) | rfl) ba rfl (by first | (simp +decide only [LN,F,reduceIte,Nat.reduceAdd,qB,qC,EN,M.aGw.en, *,-h];done) | (simp +decide only [LN,F,reduceIte,Nat.reduceAdd,qB,qC,EN,M.aGw.en, *,-h];rfl) | rfl) (by first | (simp +decide only [LN,F,reduceIte,Nat.reduceAdd,qB,qC,EN,M.aGw.en, *,-h];done) | (simp +decide only [LN,F,reduceIte,Nat.reduceAdd,qB,qC,EN,M.aGw.en, *,-h];rfl) | rfl) (by rw [<-(dP DV).sl];rfl) rfl qe) ?_
 refine sq (sq ?_)
 refine eA (J:=λs=>s.t 5 = .v false [.bp 5 1 0]/\s.t 10 = .v false [.bp 10 1 0]/\s.t 12 = .v false [.bp 12 1 0]/\s.h 5=(1,.box 31 [.old base (.sl (List.map M.aGo.en p0.aGi)) none])/\s.h 10=(1,.box 31 [.nil])/\s.h 12=(1,.box 31 [.row 100017 1])/\s.h 100017=(1,.row 193 2 (List.map M.aGo.en (List.set x1.aGi x3.toNat (⟨x8.aGg,(List.set x8.aGs ae.toNat (⟨p2,p3,x6⟩:M.aGw))⟩:M.aGo))) true)/\True) ?_ ?_
 ·and_intros<;>(try simp +decide only [LN,F,reduceIte,Nat.reduceAdd,qB,qC,EN,M.aGo.en, *,-h])
 rintro cc f38
 obtain ⟨bf,ao,h⟩:=bind_some h
 rcases oQ (!bf) with aj | aj
 ·replace h:=cT aj h
  apply bY
  ·simp +decide only [LN,E,reduceIte,Nat.reduceAdd,Nat.reduceMul,qB,qC,L,Bs,EN, *,-h]
   refine ⟨_,XI _ _ ao,?_⟩
   try simp +decide only [LN,E,reduceIte,Nat.reduceAdd,Nat.reduceMul,qB,qC,L,Bs,EN, *,-h]
   exact Is.mk _
  refine an ?_
  refine Dg (by simp +decide only [LN,F,reduceIte,Nat.reduceAdd,qB,qC,EN, *,-h]) ?_
  refine sq ?_
  obtain ⟨cd,bg,h⟩:=bind_some h
  apply bY
  ·simp +decide only [LN,E,reduceIte,Nat.reduceAdd,Nat.reduceMul,qB,qC,L,Bs,EN, *,-h]
   refine ⟨_,Xb _ _ bg,?_⟩
   try simp +decide only [LN,E,reduceIte,Nat.reduceAdd,Nat.reduceMul,qB,qC,L,Bs,EN, *,-h]
   exact Is.mk _
  refine an (rt ?_)
  cases h
  simp [Ret,EN,Bs,M.aGo.en, *]
 replace h:=cR aj h
 obtain ⟨bh,bj,h⟩:=bind_some h
 apply bY
 ·simp +decide only [LN,E,reduceIte,Nat.reduceAdd,Nat.reduceMul,qB,qC,L,Bs,EN, *,-h]
  refine ⟨_,XI _ _ ao,?_⟩
  try simp +decide only [LN,E,reduceIte,Nat.reduceAdd,Nat.reduceMul,qB,qC,L,Bs,EN, *,-h]
  refine ⟨_,XI _ _ bj,?_⟩
  try simp +decide only [LN,E,reduceIte,Nat.reduceAdd,Nat.reduceMul,qB,qC,L,Bs,EN, *,-h]
  exact Is.mk _
 refine an ?_
 rcases CH (!bh) with ak | ak
 ·replace h:=cR ak h;refine EJ (by simp +decide only [LN,F,reduceIte,Nat.reduceAdd,qB,qC,EN, *,-h]) ?_;refine sk (an (sq ?_));apply bY;(simp +decide only [LN,E,reduceIte,Nat.reduceAdd,Nat.reduceMul,qB,qC,L,Bs,EN, *,-h];exact Is.mk _);refine an (rt ?_);cases h;simp [Ret,EN,Bs,M.aGo.en, *]
 replace h:=cT ak h
 refine Dg (by simp +decide only [LN,F,reduceIte,Nat.reduceAdd,qB,qC,EN, *,-h]) ?_
 refine sq ?_
 obtain ⟨cg,bl,h⟩:=bind_some h
 apply bY
 ·simp +decide only [LN,E,reduceIte,Nat.reduceAdd,Nat.reduceMul,qB,qC,L,Bs,EN, *,-h]
  refine ⟨_,Xb _ _ bl,?_⟩
  try simp +decide only [LN,E,reduceIte,Nat.reduceAdd,Nat.reduceMul,qB,qC,L,Bs,EN, *,-h]
  exact Is.mk _
 refine an (rt ?_)
 cases h
 simp [Ret,EN,Bs,M.aGo.en, *]
instance:bF 270 (type_of% @aCo):=⟨@aCo⟩
theorem aA8 (p0 r) (h:kN p0=some r):Sc 188 [(false,[.ptr [.sl (List.map enB p0.b),.int .i64 p0.i,.int .i64 p0.h]])] [(false,[.edit (.lend 182 [.int .i64 r.1,.int .i64 r.2.1])]),rS r.2.2]:=by
 unfold kN at h
 simp only [EN]
 refine sgB 6 [.tmp 2] Tryz.func188 λbase wd B0 u0 hw0 => ?_
 refine eA (J:=λs=>s.t 0=vP 7059000 1 0/\s.h 7059000=(1,oB 182 [.old B0 (.sl (List.map enB p0.b)) (some u0),cI p0.i,cI p0.h])/\True) ?_ ?_
 ·and_intros<;>(try simp only [LN,List.map_cons,List.map_nil])<;>rfl
 rintro s1 f2
 exact sgX
instance:bF 188 (type_of% @aA8):=⟨@aA8⟩
theorem aDp (p0 r) (h:wS p0=some r):Sc 135 [aX (M.aH.en p0)] [(true,M.aH.rs r)]:=by unfold wS at h;exact sgo 12 [.cell 2 47] Tryz.func135
instance:bF 135 (type_of% @aDp):=⟨@aDp⟩
theorem aD1 (p0 r) (h:Ao p0=some r):Sc 253 [aL M.Instr.en p0] [rB r]:=by
 have i1:=inv λm s=>∃v3:Int,(s.t 0=vL M.Instr.en p0/\s.t 3=vI v3)/\mX p0 m v3=some r
 have e1:=@mX.eq_2
 unfold Ao at h
 exact sgo 21 [.tmp 2] Tryz.func253
instance:bF 253 (type_of% @aD1):=⟨@aD1⟩
theorem aEX (p0 r) (h:xR p0=some r):Sc 153 [aL M.Instr.en p0] [(true,M.aGu.rs r)]:=by unfold xR at h;exact sgo 15 [.cell 2 94] Tryz.func153
instance:bF 153 (type_of% @aEX):=⟨@aEX⟩
theorem aBB (p0 p1 p2 r) (h:kK p0 p1 p2=some r):Sc 104 [aX (M.bJ.en p0),aS p1,aX (M.aGm.en p2)] [(true,M.bJ.rs r.1),rB r.2]:=by unfold kK at h;exact sgo 43 [.cell 6 96,.tmp 7] Tryz.func104
instance:bF 104 (type_of% @aBB):=⟨@aBB⟩
theorem aDE (p0 p1 r) (h:wZ p0 p1=some r):Sc 378 [aX (M.aGf.en p0),aB p1] [(true,M.aGf.rs r.1),rI r.2]:=by unfold wZ at h;exact sgo 29 [.cell 4 28,.tmp 5] Tryz.func378
instance:bF 378 (type_of% @aDE):=⟨@aDE⟩
end Go.Proofs.YtipmihbgjolaaaaGreat.gen
