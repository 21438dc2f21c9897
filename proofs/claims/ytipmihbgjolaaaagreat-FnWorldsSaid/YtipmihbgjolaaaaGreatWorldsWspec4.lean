/-
  Helper text. No conditions.
-/
import Derived.Test.YtipmihbgjolaaaaGreatWorldsTi
import Derived.Test.YtipmihbgjolaaaaGreatWorldsWspec0
import Derived.Test.YtipmihbgjolaaaaGreatWorldsWspec1
import Derived.Test.YtipmihbgjolaaaaGreatWorldsWspec2
import Derived.Test.YtipmihbgjolaaaaGreatWorldsWspec3
set_option linter.unusedVariables false
set_option linter.unusedSimpArgs false
namespace Go.Proofs.YtipmihbgjolaaaaGreat.gen
open Go Go.Sh
set_option maxRecDepth 20000
set_option maxHeartbeats 4000000
theorem Zc (p0 r) (h:pZ p0=some r):Sc 317 [aX (M.aA.en p0)] [rI r]:=by
 have i1:=inv λm s=>∃v3:Int,∃v4:Int,(s.t 1=vP 1 1 0/\s.t 3=vI v3/\s.t 4=vI v4/\s.h 1=(1,oX 40 (M.aA.en p0)))/\jA p0 m v3 v4=some r
 have e1:=@jA.eq_2
 unfold pZ at h
 exact sgo 32 [.tmp 2] Tryz.func317
instance:cA 317 (type_of% @Zc):=⟨@Zc⟩
theorem Zi (p0 r) (h:pF p0=some r):Sc 370 [aX (M.aAA.en p0)] [rI r]:=by
 have i1:=inv λm s=>∃v3:Int,∃v4:Int,(s.t 1=vP 1 1 0/\s.t 3=vI v3/\s.t 4=vI v4/\s.h 1=(1,oX 35 (M.aAA.en p0)))/\fT p0 m v3 v4=some r
 have e1:=@fT.eq_2
 unfold pF at h
 exact sgo 21 [.tmp 2] Tryz.func370
instance:cA 370 (type_of% @Zi):=⟨@Zi⟩
theorem Yg (p0 r) (h:uO p0=some r):Sc 134 [aX (M.cR.en p0)] [(true,M.cR.rs r)]:=by unfold uO at h;exact sgo 13 [.cell 2 37] Tryz.func134
instance:cA 134 (type_of% @Yg):=⟨@Yg⟩
theorem Xh (p0 r) (h:wV p0=some r):Sc 341 [aL enB p0] [rW 22 1 (enL enB) r.1,rI r.2]:=by
 have i1:=inv λm s=>∃v5:Int,∃aa:List (List Int),∃ae:Nat,(s.t 0=vL enB p0/\s.t 4=vR 100012 ae/\s.t 5=vI v5/\s.h 100012=(ae,oW 22 1 (enL enB) aa))/\oT p0 m v5 aa=some r
 have e1:=@oT.eq_2
 unfold wV at h
 exact sgo 50 [.tmp 2,.tmp 3] Tryz.func341
instance:cA 341 (type_of% @Xh):=⟨@Xh⟩
theorem Va (p0 p1 r) (h:lC p0 p1=some r):Sc 212 [aX (M.aF.en p0),aI p1] [(true,M.aF.rs r.1),rB r.2]:=by
 have i1:=λ(x1:M.aF)=>inv λm s=>∃v7:Int,(s.t 1=vI p1/\s.t 2=vP 2 1 0/\s.t 4=vP 4 1 0/\s.t 6=vP 6 1 0/\s.t 7=vI v7/\s.h 2=(1,oX 31 (M.aF.en p0))/\s.h 4=(1,oB 31 [.nil])/\s.h 6=(1,oB 31 [.row 100010 1])/\s.h 100010=(1,oW 193 2 M.aAL.en x1.aAE))/\jG p0 p1 x1 m v7=some r
 have e1:=@jG.eq_2
 unfold lC at h
 exact sgo 57 [.cell 4 31,.tmp 5] Tryz.func212
instance:cA 212 (type_of% @Va):=⟨@Va⟩
theorem c54 (p0 r) (h:mG p0=some r):Sc 54 [aX (M.aO.en p0)] [(true,M.aO.rs r)]:=by unfold mG at h;exact sgo 18 [.cell 2 49] Tryz.func54
instance:cA 54 (type_of% @c54):=⟨@c54⟩
theorem WX (p0 p1 p2 p3 p4 r) (h:kU p0 p1 p2 p3 p4=some r):Sc 270 [aX (M.aF.en p0),aI p1,aS p2,aS p3,aX (M.aAM.en p4)] [(true,M.aF.rs r.1),rB r.2]:=by
 unfold kU at h
 simp only [EN]
 refine sgO 73 [.cell 10 31,.tmp 11] Tryz.func270 λbase wd => ?_
 refine sq ?_
 apply bW
 ·simp +decide only [LN,E,reduceIte,Nat.reduceAdd,Nat.reduceMul,qB,qC,L,yY,EN];exact Is.mk _
 refine an (sq ?_)
 obtain ⟨x1,h2,h⟩:=bind_some h
 apply bW
 ·simp +decide only [LN,E,reduceIte,Nat.reduceAdd,Nat.reduceMul,qB,qC,L,yY,EN]
  refine ⟨_,TU _ _ h2,?_⟩
  try simp +decide only [LN,E,reduceIte,Nat.reduceAdd,Nat.reduceMul,qB,qC,L,yY,EN]
  exact Is.mk _
 refine an (sq ?_)
 obtain ⟨x3,h4,h⟩:=bind_some h
 apply bW
 ·simp +decide only [LN,E,reduceIte,Nat.reduceAdd,Nat.reduceMul,qB,qC,L,yY,EN]
  refine ⟨_,ZN _ _ _ h4,?_⟩
  try simp +decide only [LN,E,reduceIte,Nat.reduceAdd,Nat.reduceMul,qB,qC,L,yY,EN]
  exact Is.mk _
 refine an (sq (sq ?_))
 apply bW
 ·simp +decide only [LN,E,reduceIte,Nat.reduceAdd,Nat.reduceMul,qB,qC,L,EN];exact Is.mk _
 refine an ?_
 rcases nY (decide (x3<0)) with b5 | b5
 ·replace h:=cF b5 h;refine Bo (by simp +decide only [LN,F,reduceIte,Nat.reduceAdd,qB,qC,EN,b5]) ?_;refine sq ?_;apply bW;(simp +decide only [LN,E,reduceIte,Nat.reduceAdd,Nat.reduceMul,qB,qC,L,yY,EN,b5];exact Is.mk _);refine an (rt ?_);cases h;simp [Ret,EN,yY,M.aAL.en,b5]
 replace h:=cE b5 h
 refine Ca (by simp +decide only [LN,F,reduceIte,Nat.reduceAdd,qB,qC,EN,b5]) ?_
 refine sk (an (sq ?_))
 obtain ⟨x6,h7,h⟩:=bind_some h
 apply bW
 ·simp +decide only [LN,E,reduceIte,Nat.reduceAdd,Nat.reduceMul,qB,qC,L,Tx,Il,EN,b5]
  refine ⟨_,VN _ _ h7,?_⟩
  try simp +decide only [LN,E,reduceIte,Nat.reduceAdd,Nat.reduceMul,qB,qC,L,Tx,Il,EN,b5]
  exact Is.mk _
 refine an (sq (sq ?_))
 obtain ⟨x8,h9,h⟩:=bind_some h
 obtain ⟨bl,aa,bm⟩:=tT h9
 obtain ⟨ae,aq,h⟩:=bind_some h
 apply bW
 ·simp +decide only [LN,E,reduceIte,Nat.reduceAdd,Nat.reduceMul,qB,qC,L,M9,yY,CQ,M.aAL.en,EN, *,-h]
  refine ⟨_,ZS _ _ _ _ aq,?_⟩
  try simp +decide only [LN,E,reduceIte,Nat.reduceAdd,Nat.reduceMul,qB,qC,L,M9,yY,CQ,M.aAL.en,EN, *,-h]
  exact Is.mk _
 refine an (sq ?_)
 apply bW
 ·simp +decide only [LN,E,reduceIte,Nat.reduceAdd,Nat.reduceMul,qB,qC,L,EN, *,-h];exact Is.mk _
 refine an ?_
 rcases zD (decide (ae>=0)) with af | af
 ·replace h:=cE af h
  refine Ca (by simp +decide only [LN,F,reduceIte,Nat.reduceAdd,qB,qC,EN, *,-h]) ?_
  refine Ma [5,10,12,13,14] [5,10,12,14,400027] (i:=100017) (ver:=1) (e:=193) (sz:=2) (xs:=List.map M.aAL.en x1.aAE) (j:=x3.toNat) (x:=M.aAL.en x8) (off:=1) (K:=7057000) (e':=195) (sz':=7) (ys:=List.map M.aAR.en x8.aAN) (by first | (simp +decide only [LN,F,reduceIte,Nat.reduceAdd,qB,qC,EN,M.aAL.en,enB, *,-h];done) | (simp +decide only [LN,F,reduceIte,Nat.reduceAdd,qB,qC,EN,M.aAL.en,enB, *,-h];rfl) | rfl) ?_ rfl ?_ rfl (.inl rfl) (λ_ h=>h.elim) qe qe qe ?_ ?_ λu => ?_
  ·rw [List.getElem?_map,aa];rfl
  ·rw [<-(dD CQ).sl];rfl
  ·simp +decide only [LC,LN,F,reduceIte,Nat.reduceAdd,qB,qC,EN,M.aAL.en,enB, *,-h]
  ·simp +decide only [LC,LN,F,reduceIte,Nat.reduceAdd,qB,qC,EN,M.aAL.en,enB, *,-h]
  have bn:(List.set (List.map M.aAL.en x1.aAE) x3.toNat [.int .i64 x8.aAB,.val u])[x3.toNat]? = some [.int .i64 x8.aAB,.val u]:=Qg (b:=M.aAL.en x8) (by rw [List.getElem?_map,aa];rfl)
  refine eJ (J:=λs=>s.t 5 = .v false [.bp 5 1 0]/\s.t 10 = .v false [.bp 10 1 0]/\s.t 12 = .v false [.bp 12 1 0]/\s.t 13 = .v false [.dat (.int .i64 x3)]/\s.t 14 = .v false [.bp 14 1 0]/\s.h 5=(1,.box 31 [.old base (.sl (List.map M.aAL.en p0.aAE)) none])/\s.h 10=(1,.box 31 [.nil])/\s.h 12=(1,.box 31 [.row 100017 1])/\s.h 14=(1,.box 195 [.dat (.str p2),.dat (.str p3),.dat (.int .i64 x6.aA0),.dat (.int .i64 x6.aAw),.dat (.int .i64 x6.aAB),.row 400027 1,.dat (.bool x6.aA9)])/\s.h 100017=(1,.row 193 2 (List.set (List.map M.aAL.en x1.aAE) x3.toNat [.int .i64 x8.aAB,.val u]) true)/\s.h 400027=(1,.row 5 1 (List.map enB x6.aA4) true)/\s.h 7057000=(1,.row 195 7 (List.map M.aAR.en x8.aAN) true)/\s.h 7058000=(1,.pin 7057000 1 u)/\True) ?_ ?_
  ·and_intros<;>(try first | (simp +decide only [LN,F,reduceIte,Nat.reduceAdd,qB,qC,EN,M.aAL.en,M.aAR.en,enB, *,-h];done) | (simp +decide only [LN,F,reduceIte,Nat.reduceAdd,qB,qC,EN,M.aAL.en,M.aAR.en,enB, *,-h];rfl) | rfl)
  rintro bo f57
  obtain ⟨bq,ar,h⟩:=bind_some h
  apply tP mixed
  ·simp +decide only [LN,E,reduceIte,Nat.reduceAdd,Nat.reduceMul,qB,qC,L,M9,yY,Ko,CQ,Il,M.aAL.en,M.aAR.en,EN, *,-h]
   refine ⟨by (have hb:=fJ ar);simp [M.aAL.en,M.aAR.en,qE,aP] at hb ⊢ <;> omega,?_⟩
   try simp +decide only [LN,E,reduceIte,Nat.reduceAdd,Nat.reduceMul,qB,qC,L,M9,yY,Ko,CQ,Il,M.aAL.en,M.aAR.en,EN, *,-h]
   exact ⟨.mk qf,Is.mk _⟩
  refine an (sq (sq ?_))
  refine eJ (J:=λs=>s.t 5 = .v false [.bp 5 1 0]/\s.t 10 = .v false [.bp 10 1 0]/\s.t 12 = .v false [.bp 12 1 0]/\s.h 5=(1,.box 31 [.old base (.sl (List.map M.aAL.en p0.aAE)) none])/\s.h 10=(1,.box 31 [.nil])/\s.h 12=(1,.box 31 [.row 100017 1])/\s.h 100017=(1,.row 193 2 (List.map M.aAL.en (List.set x1.aAE x3.toNat (⟨x8.aAB,(x8.aAN++[(⟨p2,p3,x6⟩:M.aAR)])⟩:M.aAL))) true)/\True) ?_ ?_
  ·and_intros<;>(try simp +decide only [LN,F,reduceIte,Nat.reduceAdd,qB,qC,EN,M.aAL.en, *,-h])
  rintro br f73
  obtain ⟨av,al,h⟩:=bind_some h
  rcases nY (!av) with ah | ah
  ·replace h:=cF ah h
   apply bW
   ·simp +decide only [LN,E,reduceIte,Nat.reduceAdd,Nat.reduceMul,qB,qC,L,yY,EN, *,-h]
    refine ⟨_,SE _ _ al,?_⟩
    try simp +decide only [LN,E,reduceIte,Nat.reduceAdd,Nat.reduceMul,qB,qC,L,yY,EN, *,-h]
    exact Is.mk _
   refine an ?_
   refine Bo (by simp +decide only [LN,F,reduceIte,Nat.reduceAdd,qB,qC,EN, *,-h]) ?_
   refine sq ?_
   obtain ⟨bt,aw,h⟩:=bind_some h
   apply bW
   ·simp +decide only [LN,E,reduceIte,Nat.reduceAdd,Nat.reduceMul,qB,qC,L,yY,EN, *,-h]
    refine ⟨_,TU _ _ aw,?_⟩
    try simp +decide only [LN,E,reduceIte,Nat.reduceAdd,Nat.reduceMul,qB,qC,L,yY,EN, *,-h]
    exact Is.mk _
   refine an (rt ?_)
   cases h
   simp [Ret,EN,yY,M.aAL.en, *]
  replace h:=cE ah h
  obtain ⟨ax,ay,h⟩:=bind_some h
  apply bW
  ·simp +decide only [LN,E,reduceIte,Nat.reduceAdd,Nat.reduceMul,qB,qC,L,yY,EN, *,-h]
   refine ⟨_,SE _ _ al,?_⟩
   try simp +decide only [LN,E,reduceIte,Nat.reduceAdd,Nat.reduceMul,qB,qC,L,yY,EN, *,-h]
   refine ⟨_,SE _ _ ay,?_⟩
   try simp +decide only [LN,E,reduceIte,Nat.reduceAdd,Nat.reduceMul,qB,qC,L,yY,EN, *,-h]
   exact Is.mk _
  refine an ?_
  rcases zD (!ax) with ai | ai
  ·replace h:=cE ai h;refine Ca (by simp +decide only [LN,F,reduceIte,Nat.reduceAdd,qB,qC,EN, *,-h]) ?_;refine sk (an (sq ?_));apply bW;(simp +decide only [LN,E,reduceIte,Nat.reduceAdd,Nat.reduceMul,qB,qC,L,yY,EN, *,-h];exact Is.mk _);refine an (rt ?_);cases h;simp [Ret,EN,yY,M.aAL.en, *]
  replace h:=cF ai h
  refine Bo (by simp +decide only [LN,F,reduceIte,Nat.reduceAdd,qB,qC,EN, *,-h]) ?_
  refine sq ?_
  obtain ⟨bu,az,h⟩:=bind_some h
  apply bW
  ·simp +decide only [LN,E,reduceIte,Nat.reduceAdd,Nat.reduceMul,qB,qC,L,yY,EN, *,-h]
   refine ⟨_,TU _ _ az,?_⟩
   try simp +decide only [LN,E,reduceIte,Nat.reduceAdd,Nat.reduceMul,qB,qC,L,yY,EN, *,-h]
   exact Is.mk _
  refine an (rt ?_)
  cases h
  simp [Ret,EN,yY,M.aAL.en, *]
 replace h:=cF af h
 refine Bo (by simp +decide only [LN,F,reduceIte,Nat.reduceAdd,qB,qC,EN, *,-h]) ?_
 refine Ma [5,10,12,13,14,15] [5,10,12,14,400027] (i:=100017) (ver:=1) (e:=193) (sz:=2) (xs:=List.map M.aAL.en x1.aAE) (j:=x3.toNat) (x:=M.aAL.en x8) (off:=1) (K:=7057000) (e':=195) (sz':=7) (ys:=List.map M.aAR.en x8.aAN) (by first | (simp +decide only [LN,F,reduceIte,Nat.reduceAdd,qB,qC,EN,M.aAL.en,enB, *,-h];done) | (simp +decide only [LN,F,reduceIte,Nat.reduceAdd,qB,qC,EN,M.aAL.en,enB, *,-h];rfl) | rfl) ?_ rfl ?_ rfl (.inl rfl) (λ_ h=>h.elim) qe qe qe ?_ ?_ λu => ?_
 ·rw [List.getElem?_map,aa];rfl
 ·rw [<-(dD CQ).sl];rfl
 ·simp +decide only [LC,LN,F,reduceIte,Nat.reduceAdd,qB,qC,EN,M.aAL.en,enB, *,-h]
 ·simp +decide only [LC,LN,F,reduceIte,Nat.reduceAdd,qB,qC,EN,M.aAL.en,enB, *,-h]
 have b7:(List.set (List.map M.aAL.en x1.aAE) x3.toNat [.int .i64 x8.aAB,.val u])[x3.toNat]? = some [.int .i64 x8.aAB,.val u]:=Qg (b:=M.aAL.en x8) (by rw [List.getElem?_map,aa];rfl)
 refine eJ (J:=λs=>s.t 5 = .v false [.bp 5 1 0]/\s.t 10 = .v false [.bp 10 1 0]/\s.t 12 = .v false [.bp 12 1 0]/\s.t 13 = .v false [.dat (.int .i64 x3)]/\s.t 14 = .v false [.bp 14 1 0]/\s.t 15 = .v false [.dat (.int .i64 ae)]/\s.h 5=(1,.box 31 [.old base (.sl (List.map M.aAL.en p0.aAE)) none])/\s.h 10=(1,.box 31 [.nil])/\s.h 12=(1,.box 31 [.row 100017 1])/\s.h 14=(1,.box 195 [.dat (.str p2),.dat (.str p3),.dat (.int .i64 x6.aA0),.dat (.int .i64 x6.aAw),.dat (.int .i64 x6.aAB),.row 400027 1,.dat (.bool x6.aA9)])/\s.h 100017=(1,.row 193 2 (List.set (List.map M.aAL.en x1.aAE) x3.toNat [.int .i64 x8.aAB,.val u]) true)/\s.h 400027=(1,.row 5 1 (List.map enB x6.aA4) true)/\s.h 7057000=(1,.row 195 7 (List.map M.aAR.en x8.aAN) true)/\s.h 7058000=(1,.pin 7057000 1 u)/\True) ?_ ?_
 ·and_intros<;>(try first | (simp +decide only [LN,F,reduceIte,Nat.reduceAdd,qB,qC,EN,M.aAL.en,M.aAR.en,enB, *,-h];done) | (simp +decide only [LN,F,reduceIte,Nat.reduceAdd,qB,qC,EN,M.aAL.en,M.aAR.en,enB, *,-h];rfl) | rfl)
 rintro s16 f18
 obtain ⟨bw,ba,h⟩:=bind_some h
 obtain ⟨bx,bz,c9⟩:=tT ba
 apply tP mixed
 ·simp +decide only [LN,E,reduceIte,Nat.reduceAdd,Nat.reduceMul,qB,qC,L,M9,yY,Ko,CQ,Il,M.aAL.en,M.aAR.en,EN, *,-h];exact ⟨.mk qf,Is.mk _⟩
 refine an ?_
 refine Dc (Gho.close (i:=100017) (ver:=1) (e:=193) (sz:=2) (xs:=List.set (List.map M.aAL.en x1.aAE) x3.toNat [.int .i64 x8.aAB,.val u]) (j:=x3.toNat) (x:=[.int .i64 x8.aAB,.val u]) (off:=1) (K:=7057000) (vK:=1) (e':=195) (sz':=7) (ys:=List.map M.aAR.en (List.set x8.aAN ae.toNat (⟨p2,p3,x6⟩:M.aAR))) (u:=u) (by first | (simp +decide only [LN,F,reduceIte,Nat.reduceAdd,qB,qC,EN,M.aAR.en, *,-h];done) | (simp +decide only [LN,F,reduceIte,Nat.reduceAdd,qB,qC,EN,M.aAR.en, *,-h];rfl) | rfl) b7 rfl (by first | (simp +decide only [LN,F,reduceIte,Nat.reduceAdd,qB,qC,EN,M.aAR.en, *,-h];done) | (simp +decide only [LN,F,reduceIte,Nat.reduceAdd,qB,qC,EN,M.aAR.en, *,-h];rfl) | rfl) (by first | (simp +decide only [LN,F,reduceIte,Nat.reduceAdd,qB,qC,EN,M.aAR.en, *,-h];done) | (simp +decide only [LN,F,reduceIte,Nat.reduceAdd,qB,qC,EN,M.aAR.en, *,-h];rfl) | rfl) (by rw [<-(dD CQ).sl];rfl) rfl qe) ?_
 refine sq (sq ?_)
 refine eJ (J:=λs=>s.t 5 = .v false [.bp 5 1 0]/\s.t 10 = .v false [.bp 10 1 0]/\s.t 12 = .v false [.bp 12 1 0]/\s.h 5=(1,.box 31 [.old base (.sl (List.map M.aAL.en p0.aAE)) none])/\s.h 10=(1,.box 31 [.nil])/\s.h 12=(1,.box 31 [.row 100017 1])/\s.h 100017=(1,.row 193 2 (List.map M.aAL.en (List.set x1.aAE x3.toNat (⟨x8.aAB,(List.set x8.aAN ae.toNat (⟨p2,p3,x6⟩:M.aAR))⟩:M.aAL))) true)/\True) ?_ ?_
 ·and_intros<;>(try simp +decide only [LN,F,reduceIte,Nat.reduceAdd,qB,qC,EN,M.aAL.en, *,-h])
 rintro ca f38
 obtain ⟨bd,ao,h⟩:=bind_some h
 rcases nY (!bd) with aj | aj
 ·replace h:=cF aj h
  apply bW
  ·simp +decide only [LN,E,reduceIte,Nat.reduceAdd,Nat.reduceMul,qB,qC,L,yY,EN, *,-h]
   refine ⟨_,SE _ _ ao,?_⟩
   try simp +decide only [LN,E,reduceIte,Nat.reduceAdd,Nat.reduceMul,qB,qC,L,yY,EN, *,-h]
   exact Is.mk _
  refine an ?_
  refine Bo (by simp +decide only [LN,F,reduceIte,Nat.reduceAdd,qB,qC,EN, *,-h]) ?_
  refine sq ?_
  obtain ⟨cc,bf,h⟩:=bind_some h
  apply bW
  ·simp +decide only [LN,E,reduceIte,Nat.reduceAdd,Nat.reduceMul,qB,qC,L,yY,EN, *,-h]
   refine ⟨_,TU _ _ bf,?_⟩
   try simp +decide only [LN,E,reduceIte,Nat.reduceAdd,Nat.reduceMul,qB,qC,L,yY,EN, *,-h]
   exact Is.mk _
  refine an (rt ?_)
  cases h
  simp [Ret,EN,yY,M.aAL.en, *]
 replace h:=cE aj h
 obtain ⟨bg,bh,h⟩:=bind_some h
 apply bW
 ·simp +decide only [LN,E,reduceIte,Nat.reduceAdd,Nat.reduceMul,qB,qC,L,yY,EN, *,-h]
  refine ⟨_,SE _ _ ao,?_⟩
  try simp +decide only [LN,E,reduceIte,Nat.reduceAdd,Nat.reduceMul,qB,qC,L,yY,EN, *,-h]
  refine ⟨_,SE _ _ bh,?_⟩
  try simp +decide only [LN,E,reduceIte,Nat.reduceAdd,Nat.reduceMul,qB,qC,L,yY,EN, *,-h]
  exact Is.mk _
 refine an ?_
 rcases zD (!bg) with ak | ak
 ·replace h:=cE ak h;refine Ca (by simp +decide only [LN,F,reduceIte,Nat.reduceAdd,qB,qC,EN, *,-h]) ?_;refine sk (an (sq ?_));apply bW;(simp +decide only [LN,E,reduceIte,Nat.reduceAdd,Nat.reduceMul,qB,qC,L,yY,EN, *,-h];exact Is.mk _);refine an (rt ?_);cases h;simp [Ret,EN,yY,M.aAL.en, *]
 replace h:=cF ak h
 refine Bo (by simp +decide only [LN,F,reduceIte,Nat.reduceAdd,qB,qC,EN, *,-h]) ?_
 refine sq ?_
 obtain ⟨cd,bj,h⟩:=bind_some h
 apply bW
 ·simp +decide only [LN,E,reduceIte,Nat.reduceAdd,Nat.reduceMul,qB,qC,L,yY,EN, *,-h]
  refine ⟨_,TU _ _ bj,?_⟩
  try simp +decide only [LN,E,reduceIte,Nat.reduceAdd,Nat.reduceMul,qB,qC,L,yY,EN, *,-h]
  exact Is.mk _
 refine an (rt ?_)
 cases h
 simp [Ret,EN,yY,M.aAL.en, *]
instance:cA 270 (type_of% @WX):=⟨@WX⟩
theorem ZR (p0 r) (h:yB p0=some r):Sc 213 [(false,[.ptr [.sl (List.map enB p0.b),.int .i64 p0.i,.int .i64 p0.h]])] [(false,[.edit (.lend 182 [.int .i64 r.1,.int .i64 r.2.1])]),(true,M.aF.rs r.2.2)]:=by
 unfold yB at h
 simp only [EN]
 refine sgB 42 [.cell 2 31] Tryz.func213 λbase wd B0 u0 hw0 => ?_
 refine eJ (J:=λs=>s.t 0=vP 7059000 1 0/\s.h 7059000=(1,oB 182 [.old B0 (.sl (List.map enB p0.b)) (some u0),cI p0.i,cI p0.h])/\True) ?_ ?_
 ·and_intros<;>(try simp only [LN,List.map_cons,List.map_nil])<;>rfl
 rintro s1 f2
 have i1:=DW [.b 3 0 7050000 193 2] λm s=>∃v4:Int,∃af:Int,∃ah:Int,∃ak:List M.aAL,∃al:Nat,(s.t 0=vP 7059000 1 0/\s.t 2=vP 2 ((s1.h 2).1+1) 0/\s.t 3=vP 3 ((s1.h 3).1+1) 0/\s.t 4=vI v4/\s.h 2=(((s1.h 2).1+1),oB 31 [.nil])/\s.h 3=(((s1.h 3).1+1),oB 31 [.row 7050000 al])/\s.h 7050000=(al,oW 193 2 M.aAL.en ak)/\s.h 7059000=(1,oB 182 [.old B0 (.sl (List.map enB p0.b)) (some u0),cI af,cI ah]))/\nL p0 m v4 af ah ak=some r
 have e1:=@nL.eq_2
 have i2:=DW [.b 3 0 7050100 193 2] λm s=>∃ao:Int,∃aa:Int,∃ae:Int,∃ai:List M.aAL,∃aj:Nat,(s.t 0=vP 7059000 1 0/\s.t 2=vP 2 ((s1.h 2).1+1) 0/\s.t 3=vP 3 ((s1.h 3).1+1) 0/\s.t 5=vI ao/\s.h 2=(((s1.h 2).1+1),oB 31 [.nil])/\s.h 3=(((s1.h 3).1+1),oB 31 [.row 7050100 aj])/\s.h 7050100=(aj,oW 193 2 M.aAL.en ai)/\s.h 7059000=(1,oB 182 [.old B0 (.sl (List.map enB p0.b)) (some u0),cI aa,cI ae]))/\kZ p0 m ao aa ae ai=some r
 have e2:=@kZ.eq_2
 exact sgX
theorem Xz (p0 p1 r) (h:vY p0 p1=some r):Sc 154 [(false,[.ptr [.sl (List.map enB p0.b),.int .i64 p0.i,.int .i64 p0.h]]),aI p1] [(false,[.edit (.lend 182 [.int .i64 r.1,.int .i64 r.2.1])]),(true,M.Instr.rs r.2.2)]:=by
 unfold vY at h
 simp only [EN]
 refine sgB 59 [.cell 4 216] Tryz.func154 λbase wd B0 u0 hw0 => ?_
 refine eJ (J:=λs=>s.t 0=vP 7059000 1 0/\s.t 1=vI p1/\s.h 7059000=(1,oB 182 [.old B0 (.sl (List.map enB p0.b)) (some u0),cI p0.i,cI p0.h])/\True) ?_ ?_
 ·and_intros<;>(try simp only [LN,List.map_cons,List.map_nil])<;>rfl
 rintro s1 f2
 exact sgX
instance:cA 154 (type_of% @Xz):=⟨@Xz⟩
theorem c77 (p0 r) (h:pY p0=some r):Sc 77 [(false,[.ptr [.sl (List.map enB p0.b),.int .i64 p0.i,.int .i64 p0.h]])] [(false,[.edit (.lend 182 [.int .i64 r.1,.int .i64 r.2.1])]),rW 216 4 M.Instr.en r.2.2]:=by
 unfold pY at h
 simp only [EN]
 refine sgB 21 [.tmp 2] Tryz.func77 λbase wd B0 u0 hw0 => ?_
 refine eJ (J:=λs=>s.t 0=vP 7059000 1 0/\s.h 7059000=(1,oB 182 [.old B0 (.sl (List.map enB p0.b)) (some u0),cI p0.i,cI p0.h])/\True) ?_ ?_
 ·and_intros<;>(try simp only [LN,List.map_cons,List.map_nil])<;>rfl
 rintro s1 f2
 have i1:=λ(x4:(Int×Int×Int))=>inv λm s=>∃v5:Int,∃r8:List M.Instr,∃aa:Int,∃ae:Int,∃u8:Nat,(s.t 0=vP 7059000 1 0/\s.t 3=vI x4.2.2/\s.t 4=vR 100008 u8/\s.t 5=vI v5/\s.h 100008=(u8,oW 216 4 M.Instr.en r8)/\s.h 7059000=(1,oB 182 [.old B0 (.sl (List.map enB p0.b)) (some u0),cI aa,cI ae]))/\iV p0 x4 m v5 r8 aa ae=some r
 have e1:=@iV.eq_2
 exact sgX
theorem Yl (p0 r) (h:tJ p0=some r):Sc 153 [aL M.Instr.en p0] [(true,M.aAJ.rs r)]:=by unfold tJ at h;exact sgo 15 [.cell 2 94] Tryz.func153
instance:cA 153 (type_of% @Yl):=⟨@Yl⟩
theorem c76 (p0 p1 p2 p3 p4 r) (h:kY p0 p1 p2 p3 p4=some r):Sc 76 [aI p0,aS p1,aS p2,aI p3,aL M.Instr.en p4] [(true,M.bV.rs r.1),rB r.2]:=by unfold kY at h;exact sgo 25 [.cell 10 96,.tmp 11] Tryz.func76
end Go.Proofs.YtipmihbgjolaaaaGreat.gen
