/-
  Helper text. No conditions.
-/
import Derived.Test.YtbpbocchokbggaaGreatUpdatesWimpl3
import Derived.Test.YtbpbocchokbggaaGreatUpdatesWlib
set_option linter.all false
namespace Go.Proofs.YtbpbocchokbggaaGreat.gen
open Go Go.Sh
set_option maxRecDepth 20000
set_option maxHeartbeats 4000000
instance:bE 188 (∀p0 r (h:zL p0=some r),Sc 188 [aX (M.aJC.en p0)] [(true,M.aJC.rs r)]):=⟨λp0 r h=>by unfold zL at h;exact sgo 15 [.cell 2 205] Tryz.func188⟩
instance Zt:bE 385 (∀p0 r (h:cR p0=some r),Sc 385 [aX (M.aC.en p0)] [rB r]):=⟨λp0 r h=>by
 have i1:=inv λm s=>∃v10:Int,(s.t 1=vP 1 1 0/\s.t 8=vL M.aI5.en p0.aI1/\s.t 9=vI (List.length p0.aI1:Int)/\s.t 10=vI v10/\s.h 1=(1,oX 108 (M.aC.en p0)))/\fG p0 m v10=some r
 have e1:=@fG.eq_2
 have i2:=λ(v10:Int) (x8:M.aI5) (af:Int->Option Bool) (s1:St)=>inv λm s=>∃aa:Int,(s.t 1=vP 1 1 0/\s.t 4=vP 4 ((s1.h 4).1+1) 0/\s.t 8=vL M.aI5.en p0.aI1/\s.t 9=vI (List.length p0.aI1:Int)/\s.t 10=vI v10/\s.t 42=vL M.aJE.en x8.aJB/\s.t 43=vI (List.length x8.aJB:Int)/\s.t 44=vI aa/\s.h 1=(1,oX 108 (M.aC.en p0))/\s.h 4=((s1.h 4).1+1,oX 345 (M.aI5.en x8)))/\fH x8 af m aa=some r
 have e2:=@fH.eq_2
 have i3:=λ(v10:Int) (x8:M.aI5) (ah:Int->Option Bool) (s1:St)=>inv λm s=>∃ae:Int,(s.t 1=vP 1 1 0/\s.t 4=vP 4 ((s1.h 4).1+1) 0/\s.t 8=vL M.aI5.en p0.aI1/\s.t 9=vI (List.length p0.aI1:Int)/\s.t 10=vI v10/\s.t 42=vL M.aJE.en x8.aJB/\s.t 43=vI (List.length x8.aJB:Int)/\s.t 44=vI ae/\s.h 1=(1,oX 108 (M.aC.en p0))/\s.h 4=((s1.h 4).1+1,oX 345 (M.aI5.en x8)))/\eW x8 ah m ae=some r
 have e3:=@eW.eq_2
 unfold cR at h
 exact sgo 81 [.tmp 2] Tryz.func385⟩
instance:bE 242 (∀p0 r (h:CY p0=some r),Sc 242 [aX (M.bG.en p0)] [rB r]):=⟨λp0 r h=>by
 have i1:=inv λm s=>∃v8:Int,(s.t 1=vP 1 1 0/\s.t 6=vL M.aV.en p0.aV/\s.t 7=vI (List.length p0.aV:Int)/\s.t 8=vI v8/\s.h 1=(1,oX 67 (M.bG.en p0)))/\tU p0 m v8=some r
 have e1:=@tU.eq_2
 unfold CY at h
 exact sgo 48 [.tmp 2] Tryz.func242⟩
instance:bE 243 (∀p0 r (h:uK p0=some r),Sc 243 [aX (M.aI7.en p0)] [rB r]):=⟨λp0 r h=>by
 have i1:=inv λm s=>∃v8:Int,(s.t 1=vP 1 1 0/\s.t 6=vL enS p0.aJW/\s.t 7=vI (List.length p0.aJW:Int)/\s.t 8=vI v8/\s.h 1=(1,oX 92 (M.aI7.en p0)))/\lZ p0 m v8=some r
 have e1:=@lZ.eq_2
 unfold uK at h
 exact sgo 45 [.tmp 2] Tryz.func243⟩
instance:bE 280 (∀p0 p1 r (h:pE p0 p1=some r),Sc 280 [aX (M.aI7.en p0),aI p1] [rB r]):=⟨λp0 p1 r h=>by unfold pE at h;exact sgo 24 [.tmp 4] Tryz.func280⟩
instance:bE 282 (∀p0 p1 r (h:Ar p0 p1=some r),Sc 282 [aX (M.aC.en p0),aI p1] [(true,M.aC.rs r.1),rB r.2]):=⟨λp0 p1 r h=>by
 have i1:=λ(x1:M.aC)=>inv λm s=>∃v7:Int,(s.t 1=vI p1/\s.t 2=vP 2 1 0/\s.t 4=vP 4 1 0/\s.t 6=vP 6 1 0/\s.t 7=vI v7/\s.h 2=(1,oX 108 (M.aC.en p0))/\s.h 4=(1,oB 108 [.nil])/\s.h 6=(1,oB 108 [.row 100009 1])/\s.h 100009=(1,oW 345 2 M.aI5.en x1.aI1))/\mO p0 p1 x1 m v7=some r
 have e1:=@mO.eq_2
 unfold Ar at h
 exact sgo 46 [.cell 4 108,.tmp 5] Tryz.func282⟩
instance:bE 283 (∀p0 p1 p2 p3 p4 r (h:uB p0 p1 p2 p3 p4=some r),Sc 283 [aX (M.aC.en p0),aI p1,aS p2,aS p3,aX (M.aI8.en p4)] [(true,M.aC.rs r.1),rB r.2]):=⟨λp0 p1 p2 p3 p4 r h=>by
 unfold uB at h
 simp only[EN]
 refine sgO 70 [.cell 10 108,.tmp 11] Tryz.func283 λbase wd => ?_
 refine sq ?_
 apply bJ
 ·simp +decide only[LN,E,reduceIte,Nat.reduceAdd,Nat.reduceMul,qB,qC,L,dQ,EN];exact Is.mk _
 refine an (sq ?_)
 obtain⟨x1,h2,h⟩:=bind_some h
 apply bJ
 ·simp +decide only[LN,E,reduceIte,Nat.reduceAdd,Nat.reduceMul,qB,qC,L,dQ,EN]
  refine⟨_,aAN.1 _ _ h2,?_⟩
  try simp +decide only[LN,E,reduceIte,Nat.reduceAdd,Nat.reduceMul,qB,qC,L,dQ,EN]
  exact Is.mk _
 refine an (sq ?_)
 obtain⟨x3,h4,h⟩:=bind_some h
 apply bJ
 ·simp +decide only[LN,E,reduceIte,Nat.reduceAdd,Nat.reduceMul,qB,qC,L,dQ,EN]
  refine⟨_,aCR.1 _ _ _ h4,?_⟩
  try simp +decide only[LN,E,reduceIte,Nat.reduceAdd,Nat.reduceMul,qB,qC,L,dQ,EN]
  exact Is.mk _
 refine an (sq (sq ?_))
 apply bJ
 ·simp +decide only[LN,E,reduceIte,Nat.reduceAdd,Nat.reduceMul,qB,qC,L,EN];exact Is.mk _
 refine an ?_
 rcases mT (decide (x3<0))with b5 | b5
 ·replace h:=bZ b5 h;refine CF (by simp +decide only[LN,F,reduceIte,Nat.reduceAdd,qB,qC,EN,b5]) ?_;refine sq ?_;apply bJ;(simp +decide only[LN,E,reduceIte,Nat.reduceAdd,Nat.reduceMul,qB,qC,L,dQ,EN,b5];exact Is.mk _);refine an (rt ?_);cases h;simp[Ret,EN,dQ,M.aI5.en,b5]
 replace h:=bY b5 h
 refine Ev (by simp +decide only[LN,F,reduceIte,Nat.reduceAdd,qB,qC,EN,b5]) ?_
 refine sk (an (sq ?_))
 obtain⟨x6,h7,h⟩:=bind_some h
 obtain⟨q8,q9,br⟩:=wM h7
 apply bJ
 ·simp +decide only[LN,E,reduceIte,Nat.reduceAdd,Nat.reduceMul,qB,qC,L,FV,dQ,B2,M.aI5.en,EN, *,-h];exact Is.mk _
 refine an (sq (sq ?_))
 obtain⟨aa,ar,h⟩:=bind_some h
 apply bJ
 ·simp +decide only[LN,E,reduceIte,Nat.reduceAdd,Nat.reduceMul,qB,qC,L,B2,M.aI5.en,EN, *,-h]
  refine⟨_,aCf.1 _ _ _ _ ar,?_⟩
  try simp +decide only[LN,E,reduceIte,Nat.reduceAdd,Nat.reduceMul,qB,qC,L,B2,M.aI5.en,EN, *,-h]
  exact Is.mk _
 refine an (sq ?_)
 apply bJ
 ·simp +decide only[LN,E,reduceIte,Nat.reduceAdd,Nat.reduceMul,qB,qC,L,EN, *,-h];exact Is.mk _
 refine an ?_
 rcases C1 (decide (aa>=0))with af | af
 ·replace h:=bY af h
  refine Ev (by simp +decide only[LN,F,reduceIte,Nat.reduceAdd,qB,qC,EN, *,-h]) ?_
  refine M0 [2,3,5,9,10,12,14] [5,9,10,12] (i:=100017) (ver:=1) (e:=345) (sz:=2) (xs:=List.map M.aI5.en x1.aI1) (j:=x3.toNat) (x:=M.aI5.en x6) (off:=1) (K:=7057000) (e':=351) (sz':=7) (ys:=List.map M.aJE.en x6.aJB) (by first | (simp +decide only[LN,F,reduceIte,Nat.reduceAdd,qB,qC,EN,M.aI5.en, *,-h];done)| (simp +decide only[LN,F,reduceIte,Nat.reduceAdd,qB,qC,EN,M.aI5.en, *,-h];rfl)| rfl) ?_ rfl ?_ rfl (.inl rfl) (λ_ h=>h.elim) jE jE jE ?_ ?_ λu => ?_
  ·rw[List.getElem?_map,q9];rfl
  ·rw[<-(dL B2).sl];rfl
  ·simp +decide only[LC,LN,F,reduceIte,Nat.reduceAdd,qB,qC,EN,M.aI5.en, *,-h]
  ·simp +decide only[LC,LN,F,reduceIte,Nat.reduceAdd,qB,qC,EN,M.aI5.en, *,-h]
  have bt:(List.set (List.map M.aI5.en x1.aI1) x3.toNat [.int .i64 x6.aI0,.val u])[x3.toNat]? = some [.int .i64 x6.aI0,.val u]:=QR (b:=M.aI5.en x6) (by rw[List.getElem?_map,q9];rfl)
  refine dR (J:=λs=>s.t 2 = .v false [.dat (.str p2)]/\s.t 3 = .v false [.dat (.str p3)]/\s.t 5 = .v false [.bp 5 1 0]/\s.t 9 = .v false [.bp 9 1 0]/\s.t 10 = .v false [.bp 10 1 0]/\s.t 12 = .v false [.bp 12 1 0]/\s.t 14 = .v false [.rp 100017 1 x3.toNat 0]/\s.h 5=(1,.box 108 [.old base (.sl (List.map M.aI5.en p0.aI1)) none])/\s.h 9=(1,.box 189 [.dat (.int .i64 p4.aJq),.dat (.int .i64 p4.aJn),.dat (.int .i64 p4.aI0),.old base (.sl (List.map enB p4.aJr)) none,.dat (.bool p4.aJu)])/\s.h 10=(1,.box 108 [.nil])/\s.h 12=(1,.box 108 [.row 100017 1])/\s.h 100017=(1,.row 345 2 (List.set (List.map M.aI5.en x1.aI1) x3.toNat [.int .i64 x6.aI0,.val u]) true)/\s.h 7057000=(1,.row 351 7 (List.map M.aJE.en x6.aJB) true)/\s.h 7058000=(1,.pin 7057000 1 u)/\True) ?_ ?_
  ·and_intros<;>(try first | (simp +decide only[LN,F,reduceIte,Nat.reduceAdd,qB,qC,EN,M.aI5.en,M.aJE.en, *,-h];done)| (simp +decide only[LN,F,reduceIte,Nat.reduceAdd,qB,qC,EN,M.aI5.en,M.aJE.en, *,-h];rfl)| rfl)
  rintro bu f56
  obtain⟨av,aw,h⟩:=bind_some h
  obtain⟨bw,ax,h⟩:=bind_some h
  apply BH mixed
  ·simp +decide only[LN,E,reduceIte,Nat.reduceAdd,Nat.reduceMul,qB,qC,L,Ql,J8,B2,Ij,M.aI5.en,M.aJE.en,EN, *,-h]
   refine⟨_,aCC.1 _ _ aw,?_⟩
   try simp +decide only[LN,E,reduceIte,Nat.reduceAdd,Nat.reduceMul,qB,qC,L,Ql,J8,B2,Ij,M.aI5.en,M.aJE.en,EN, *,-h]
   refine⟨by(have hb:=gO ax);simp[M.aI5.en,M.aJE.en,qE,aO]at hb ⊢ <;> omega,?_⟩
   try simp +decide only[LN,E,reduceIte,Nat.reduceAdd,Nat.reduceMul,qB,qC,L,Ql,J8,B2,Ij,M.aI5.en,M.aJE.en,EN, *,-h]
   exact⟨.mk jF,Is.mk _⟩
  refine an (sq (sq ?_))
  refine dR (J:=λs=>s.t 5 = .v false [.bp 5 1 0]/\s.t 10 = .v false [.bp 10 1 0]/\s.t 12 = .v false [.bp 12 1 0]/\s.h 5=(1,.box 108 [.old base (.sl (List.map M.aI5.en p0.aI1)) none])/\s.h 10=(1,.box 108 [.nil])/\s.h 12=(1,.box 108 [.row 100017 1])/\s.h 100017=(1,.row 345 2 (List.map M.aI5.en (List.set x1.aI1 x3.toNat (⟨x6.aI0,x6.aJB++[(⟨p2,p3,av⟩:M.aJE)]⟩:M.aI5))) true)/\True) ?_ ?_
  ·and_intros<;>(try simp +decide only[LN,F,reduceIte,Nat.reduceAdd,qB,qC,EN,M.aI5.en, *,-h])
  rintro bx f75
  obtain⟨ay,al,h⟩:=bind_some h
  rcases mT (!ay)with ah | ah
  ·replace h:=bZ ah h
   apply bJ
   ·simp +decide only[LN,E,reduceIte,Nat.reduceAdd,Nat.reduceMul,qB,qC,L,dQ,EN, *,-h]
    refine⟨_,Zt.1 _ _ al,?_⟩
    try simp +decide only[LN,E,reduceIte,Nat.reduceAdd,Nat.reduceMul,qB,qC,L,dQ,EN, *,-h]
    exact Is.mk _
   refine an ?_
   refine CF (by simp +decide only[LN,F,reduceIte,Nat.reduceAdd,qB,qC,EN, *,-h]) ?_
   refine sq ?_
   obtain⟨bz,az,h⟩:=bind_some h
   apply bJ
   ·simp +decide only[LN,E,reduceIte,Nat.reduceAdd,Nat.reduceMul,qB,qC,L,dQ,EN, *,-h]
    refine⟨_,aAN.1 _ _ az,?_⟩
    try simp +decide only[LN,E,reduceIte,Nat.reduceAdd,Nat.reduceMul,qB,qC,L,dQ,EN, *,-h]
    exact Is.mk _
   refine an (rt ?_)
   cases h
   simp[Ret,EN,dQ,M.aI5.en, *]
  replace h:=bY ah h
  obtain⟨ba,bd,h⟩:=bind_some h
  apply bJ
  ·simp +decide only[LN,E,reduceIte,Nat.reduceAdd,Nat.reduceMul,qB,qC,L,dQ,EN, *,-h]
   refine⟨_,Zt.1 _ _ al,?_⟩
   try simp +decide only[LN,E,reduceIte,Nat.reduceAdd,Nat.reduceMul,qB,qC,L,dQ,EN, *,-h]
   refine⟨_,Zt.1 _ _ bd,?_⟩
   try simp +decide only[LN,E,reduceIte,Nat.reduceAdd,Nat.reduceMul,qB,qC,L,dQ,EN, *,-h]
   exact Is.mk _
  refine an ?_
  rcases C1 (!ba)with ai | ai
  ·replace h:=bY ai h;refine Ev (by simp +decide only[LN,F,reduceIte,Nat.reduceAdd,qB,qC,EN, *,-h]) ?_;refine sk (an (sq ?_));apply bJ;(simp +decide only[LN,E,reduceIte,Nat.reduceAdd,Nat.reduceMul,qB,qC,L,dQ,EN, *,-h];exact Is.mk _);refine an (rt ?_);cases h;simp[Ret,EN,dQ,M.aI5.en, *]
  replace h:=bZ ai h
  refine CF (by simp +decide only[LN,F,reduceIte,Nat.reduceAdd,qB,qC,EN, *,-h]) ?_
  refine sq ?_
  obtain⟨c9,bf,h⟩:=bind_some h
  apply bJ
  ·simp +decide only[LN,E,reduceIte,Nat.reduceAdd,Nat.reduceMul,qB,qC,L,dQ,EN, *,-h]
   refine⟨_,aAN.1 _ _ bf,?_⟩
   try simp +decide only[LN,E,reduceIte,Nat.reduceAdd,Nat.reduceMul,qB,qC,L,dQ,EN, *,-h]
   exact Is.mk _
  refine an (rt ?_)
  cases h
  simp[Ret,EN,dQ,M.aI5.en, *]
 replace h:=bZ af h
 refine CF (by simp +decide only[LN,F,reduceIte,Nat.reduceAdd,qB,qC,EN, *,-h]) ?_
 refine M0 [5,9,10,12,14,15] [5,9,10,12] (i:=100017) (ver:=1) (e:=345) (sz:=2) (xs:=List.map M.aI5.en x1.aI1) (j:=x3.toNat) (x:=M.aI5.en x6) (off:=1) (K:=7057000) (e':=351) (sz':=7) (ys:=List.map M.aJE.en x6.aJB) (by first | (simp +decide only[LN,F,reduceIte,Nat.reduceAdd,qB,qC,EN,M.aI5.en, *,-h];done)| (simp +decide only[LN,F,reduceIte,Nat.reduceAdd,qB,qC,EN,M.aI5.en, *,-h];rfl)| rfl) ?_ rfl ?_ rfl (.inl rfl) (λ_ h=>h.elim) jE jE jE ?_ ?_ λu => ?_
 ·rw[List.getElem?_map,q9];rfl
 ·rw[<-(dL B2).sl];rfl
 ·simp +decide only[LC,LN,F,reduceIte,Nat.reduceAdd,qB,qC,EN,M.aI5.en, *,-h]
 ·simp +decide only[LC,LN,F,reduceIte,Nat.reduceAdd,qB,qC,EN,M.aI5.en, *,-h]
 have bg:(List.set (List.map M.aI5.en x1.aI1) x3.toNat [.int .i64 x6.aI0,.val u])[x3.toNat]? = some [.int .i64 x6.aI0,.val u]:=QR (b:=M.aI5.en x6) (by rw[List.getElem?_map,q9];rfl)
 refine dR (J:=λs=>s.t 5 = .v false [.bp 5 1 0]/\s.t 9 = .v false [.bp 9 1 0]/\s.t 10 = .v false [.bp 10 1 0]/\s.t 12 = .v false [.bp 12 1 0]/\s.t 14 = .v false [.rp 100017 1 x3.toNat 0]/\s.t 15 = .v false [.dat (.int .i64 aa)]/\s.h 5=(1,.box 108 [.old base (.sl (List.map M.aI5.en p0.aI1)) none])/\s.h 9=(1,.box 189 [.dat (.int .i64 p4.aJq),.dat (.int .i64 p4.aJn),.dat (.int .i64 p4.aI0),.old base (.sl (List.map enB p4.aJr)) none,.dat (.bool p4.aJu)])/\s.h 10=(1,.box 108 [.nil])/\s.h 12=(1,.box 108 [.row 100017 1])/\s.h 100017=(1,.row 345 2 (List.set (List.map M.aI5.en x1.aI1) x3.toNat [.int .i64 x6.aI0,.val u]) true)/\s.h 7057000=(1,.row 351 7 (List.map M.aJE.en x6.aJB) true)/\s.h 7058000=(1,.pin 7057000 1 u)/\True) ?_ ?_
 ·and_intros<;>(try first | (simp +decide only[LN,F,reduceIte,Nat.reduceAdd,qB,qC,EN,M.aI5.en,M.aJE.en, *,-h];done)| (simp +decide only[LN,F,reduceIte,Nat.reduceAdd,qB,qC,EN,M.aI5.en,M.aJE.en, *,-h];rfl)| rfl)
 rintro ca f16
 obtain⟨ao,bh,h⟩:=bind_some h
 obtain⟨ae,bj,h⟩:=bind_some h
 obtain⟨cc,cd,cg⟩:=wM bj
 apply BH mixed
 ·simp +decide only[LN,E,reduceIte,Nat.reduceAdd,Nat.reduceMul,qB,qC,L,Ql,J8,B2,Ij,M.aI5.en,M.aJE.en,EN, *,-h]
  refine⟨_,aCC.1 _ _ bh,?_⟩
  try simp +decide only[LN,E,reduceIte,Nat.reduceAdd,Nat.reduceMul,qB,qC,L,Ql,J8,B2,Ij,M.aI5.en,M.aJE.en,EN, *,-h]
  exact⟨.mk jF,Is.mk _⟩
 refine an ?_
 refine GS (Gho.close (i:=100017) (ver:=1) (e:=345) (sz:=2) (xs:=List.set (List.map M.aI5.en x1.aI1) x3.toNat [.int .i64 x6.aI0,.val u]) (j:=x3.toNat) (x:=[.int .i64 x6.aI0,.val u]) (off:=1) (K:=7057000) (vK:=1) (e':=351) (sz':=7) (ys:=List.map M.aJE.en (List.set x6.aJB aa.toNat (⟨ae.aI7,ae.aJk,ao⟩:M.aJE))) (u:=u) (by first | (simp +decide only[LN,F,reduceIte,Nat.reduceAdd,qB,qC,EN,M.aJE.en, *,-h];done)| (simp +decide only[LN,F,reduceIte,Nat.reduceAdd,qB,qC,EN,M.aJE.en, *,-h];rfl)| rfl) bg rfl (by first | (simp +decide only[LN,F,reduceIte,Nat.reduceAdd,qB,qC,EN,M.aJE.en, *,-h];done)| (simp +decide only[LN,F,reduceIte,Nat.reduceAdd,qB,qC,EN,M.aJE.en, *,-h];rfl)| rfl) (by first | (simp +decide only[LN,F,reduceIte,Nat.reduceAdd,qB,qC,EN,M.aJE.en, *,-h];done)| (simp +decide only[LN,F,reduceIte,Nat.reduceAdd,qB,qC,EN,M.aJE.en, *,-h];rfl)| rfl) (by rw[<-(dL B2).sl];rfl) rfl jE) ?_
 refine sq (sq ?_)
 refine dR (J:=λs=>s.t 5 = .v false [.bp 5 1 0]/\s.t 10 = .v false [.bp 10 1 0]/\s.t 12 = .v false [.bp 12 1 0]/\s.h 5=(1,.box 108 [.old base (.sl (List.map M.aI5.en p0.aI1)) none])/\s.h 10=(1,.box 108 [.nil])/\s.h 12=(1,.box 108 [.row 100017 1])/\s.h 100017=(1,.row 345 2 (List.map M.aI5.en (List.set x1.aI1 x3.toNat (⟨x6.aI0,List.set x6.aJB aa.toNat (⟨ae.aI7,ae.aJk,ao⟩:M.aJE)⟩:M.aI5))) true)/\True) ?_ ?_
 ·and_intros<;>(try simp +decide only[LN,F,reduceIte,Nat.reduceAdd,qB,qC,EN,M.aI5.en, *,-h])
 rintro cj f37
 obtain⟨bl,aq,h⟩:=bind_some h
 rcases mT (!bl)with aj | aj
 ·replace h:=bZ aj h
  apply bJ
  ·simp +decide only[LN,E,reduceIte,Nat.reduceAdd,Nat.reduceMul,qB,qC,L,dQ,EN, *,-h]
   refine⟨_,Zt.1 _ _ aq,?_⟩
   try simp +decide only[LN,E,reduceIte,Nat.reduceAdd,Nat.reduceMul,qB,qC,L,dQ,EN, *,-h]
   exact Is.mk _
  refine an ?_
  refine CF (by simp +decide only[LN,F,reduceIte,Nat.reduceAdd,qB,qC,EN, *,-h]) ?_
  refine sq ?_
  obtain⟨ck,bm,h⟩:=bind_some h
  apply bJ
  ·simp +decide only[LN,E,reduceIte,Nat.reduceAdd,Nat.reduceMul,qB,qC,L,dQ,EN, *,-h]
   refine⟨_,aAN.1 _ _ bm,?_⟩
   try simp +decide only[LN,E,reduceIte,Nat.reduceAdd,Nat.reduceMul,qB,qC,L,dQ,EN, *,-h]
   exact Is.mk _
  refine an (rt ?_)
  cases h
  simp[Ret,EN,dQ,M.aI5.en, *]
 replace h:=bY aj h
 obtain⟨bn,bo,h⟩:=bind_some h
 apply bJ
 ·simp +decide only[LN,E,reduceIte,Nat.reduceAdd,Nat.reduceMul,qB,qC,L,dQ,EN, *,-h]
  refine⟨_,Zt.1 _ _ aq,?_⟩
  try simp +decide only[LN,E,reduceIte,Nat.reduceAdd,Nat.reduceMul,qB,qC,L,dQ,EN, *,-h]
  refine⟨_,Zt.1 _ _ bo,?_⟩
  try simp +decide only[LN,E,reduceIte,Nat.reduceAdd,Nat.reduceMul,qB,qC,L,dQ,EN, *,-h]
  exact Is.mk _
 refine an ?_
 rcases C1 (!bn)with ak | ak
 ·replace h:=bY ak h;refine Ev (by simp +decide only[LN,F,reduceIte,Nat.reduceAdd,qB,qC,EN, *,-h]) ?_;refine sk (an (sq ?_));apply bJ;(simp +decide only[LN,E,reduceIte,Nat.reduceAdd,Nat.reduceMul,qB,qC,L,dQ,EN, *,-h];exact Is.mk _);refine an (rt ?_);cases h;simp[Ret,EN,dQ,M.aI5.en, *]
 replace h:=bZ ak h
 refine CF (by simp +decide only[LN,F,reduceIte,Nat.reduceAdd,qB,qC,EN, *,-h]) ?_
 refine sq ?_
 obtain⟨cl,bq,h⟩:=bind_some h
 apply bJ
 ·simp +decide only[LN,E,reduceIte,Nat.reduceAdd,Nat.reduceMul,qB,qC,L,dQ,EN, *,-h]
  refine⟨_,aAN.1 _ _ bq,?_⟩
  try simp +decide only[LN,E,reduceIte,Nat.reduceAdd,Nat.reduceMul,qB,qC,L,dQ,EN, *,-h]
  exact Is.mk _
 refine an (rt ?_)
 cases h
 simp[Ret,EN,dQ,M.aI5.en, *]⟩
theorem c30(p0 p1 p2 r)(h:fW p0 p1 p2=some r):Sc 30 [aX (M.World.en p0),aS p1,aS p2] [rW 3 1 enI r]:=by unfold fW at h;exact sgo 29 [.tmp 6] Tryz.func30
