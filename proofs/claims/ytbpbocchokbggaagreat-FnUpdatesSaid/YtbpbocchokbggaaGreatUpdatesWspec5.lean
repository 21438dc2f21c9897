/-
  Helper text. No conditions.
-/
import Derived.Test.YtbpbocchokbggaaGreatUpdatesWspec3
import Derived.Test.YtbpbocchokbggaaGreatUpdatesWspec4
set_option linter.all false
namespace Go.Proofs.YtbpbocchokbggaaGreat.gen
open Go Go.Sh
set_option maxRecDepth 20000
set_option maxHeartbeats 4000000
instance:bE 170 (∀p0 r (h:AJ p0=some r),Sc 170 [aX (M.bR.en p0)] [(true,M.bR.rs r)]):=⟨λp0 r h=>by unfold AJ at h;exact sgo 13 [.cell 2 114] Tryz.func170⟩
instance:bE 124 (∀p0 r (h:sI p0=some r),Sc 124 [aX (M.aJC.en p0)] [rB r]):=⟨λp0 r h=>by
 have i1:=inv λm s=>∃v3:Int,(s.t 1=vP 1 1 0/\s.t 3=vI v3/\s.h 1=(1,oX 205 (M.aJC.en p0)))/\iG p0 m v3=some r
 have e1:=@iG.eq_2
 have i2:=inv λm s=>∃v4:Int,(s.t 1=vP 1 1 0/\s.t 4=vI v4/\s.h 1=(1,oX 205 (M.aJC.en p0)))/\lB p0 m v4=some r
 have e2:=@lB.eq_2
 unfold sI at h
 exact sgo 79 [.tmp 2] Tryz.func124⟩
instance:bE 512 (∀p0 p1 r (h:BZ p0 p1=some r),Sc 512 [aX (M.aD.en p0),aS p1] [rW 260 4 M.aJN.en r]):=⟨λp0 p1 r h=>by
 have i1:=E5 [.t 5 7050000 260 4] λm s=>∃v6:Int,∃aa:List M.aJN,∃ae:Nat,(s.t 1=vS p1/\s.t 2=vP 2 1 0/\s.t 5=vR 7050000 ae/\s.t 6=vI v6/\s.h 2=(1,oX 117 (M.aD.en p0))/\s.h 7050000=(ae,oW 260 4 M.aJN.en aa))/\nE p0 p1 m v6 aa=some r
 have e1:=@nE.eq_2
 have i2:=λ(v6:Int) (aa:List M.aJN) (ah:M.aJN) (ai:Int->Option (List M.aJN)) (ae:Nat)=>inv λm s=>∃af:Int,(s.t 1=vS p1/\s.t 2=vP 2 1 0/\s.t 5=vR 7050000 ae/\s.t 6=vI v6/\s.t 9=vI af/\s.h 2=(1,oX 117 (M.aD.en p0))/\s.h 7050000=(ae,oW 260 4 M.aJN.en aa))/\pS p1 aa ah ai m af=some r
 have e2:=@pS.eq_2
 unfold BZ at h
 exact sgo 72 [.tmp 4] Tryz.func512⟩
instance:bE 393 (∀p0 r (h:pG p0=some r),Sc 393 [aX (M.aG.en p0)] [rB r]):=⟨λp0 r h=>by unfold pG at h;exact sgo 23 [.tmp 2] Tryz.func393⟩
instance:bE 488 (∀p0 r (h:xH p0=some r),Sc 488 [aX (M.aD.en p0)] [rI r]):=⟨λp0 r h=>by
 have i1:=inv λm s=>∃v3:Int,∃v4:Int,(s.t 1=vP 1 1 0/\s.t 3=vI v3/\s.t 4=vI v4/\s.h 1=(1,oX 117 (M.aD.en p0)))/\mQ p0 m v3 v4=some r
 have e1:=@mQ.eq_2
 unfold xH at h
 exact sgo 32 [.tmp 2] Tryz.func488⟩
instance:bE 239 (∀p0 p1 r (h:Bl p0 p1=some r),Sc 239 [(false,[.ptr [.sl (List.map enB p0.b),.int .i64 p0.i,.int .i64 p0.h]]),aI p1] [(false,[.edit (.lend 304 [.int .i64 r.1,.int .i64 r.2.1])]),(true,M.Instr.rs r.2.2)]):=⟨λp0 p1 r h=>by
 unfold Bl at h
 simp only[EN]
 refine sgB 59 [.cell 4 308] Tryz.func239 λbase wd B0 u0 hw0=> ?_
 refine dR (J:=λs=>s.t 0=vP 7059000 1 0/\s.t 1=vI p1/\s.h 7059000=(1,oB 304 [.old B0 (.sl (List.map enB p0.b)) (some u0),cI p0.i,cI p0.h])/\True) ?_ ?_
 ·and_intros<;>(try simp only[LN,List.map_cons,List.map_nil])<;>rfl
 rintro s1 f2
 exact sgX⟩
instance:bE 251 (∀p0 r (h:pI p0=some r),Sc 251 [aI p0] [(true,M.aK.rs r.1),rB r.2]):=⟨λp0 r h=>by unfold pI at h;exact sgo 12 [.cell 2 120,.tmp 3] Tryz.func251⟩
instance:bE 256 (∀p0 r (h:zR p0=some r),Sc 256 [aL M.Instr.en p0] [(true,M.aJH.rs r)]):=⟨λp0 r h=>by unfold zR at h;exact sgo 15 [.cell 2 65] Tryz.func256⟩
instance:bE 502 (∀p0 p1 r (h:kH p0 p1=some r),Sc 502 [aI p0,aS p1] [rI r]):=⟨λp0 p1 r h=>by unfold kH at h;exact sgo 11 [.tmp 4] Tryz.func502⟩
instance aCE:bE 289 (∀p0 p1 r (h:mD p0 p1=some r),Sc 289 [aX (M.aC.en p0),aI p1] [(true,M.aC.rs r.1),rB r.2]):=⟨λp0 p1 r h=>by
 have i1:=λ(x1:M.aC)=>inv λm s=>∃v7:Int,(s.t 1=vI p1/\s.t 2=vP 2 1 0/\s.t 4=vP 4 1 0/\s.t 6=vP 6 1 0/\s.t 7=vI v7/\s.h 2=(1,oX 108 (M.aC.en p0))/\s.h 4=(1,oB 108 [.nil])/\s.h 6=(1,oB 108 [.row 100010 1])/\s.h 100010=(1,oW 345 2 M.aI5.en x1.aI1))/\nB p0 p1 x1 m v7=some r
 have e1:=@nB.eq_2
 unfold mD at h
 exact sgo 57 [.cell 4 108,.tmp 5] Tryz.func289⟩
instance:bE 291 (∀p0 p1 p2 p3 p4 r (h:kY p0 p1 p2 p3 p4=some r),Sc 291 [aX (M.aC.en p0),aI p1,aS p2,aS p3,aX (M.aI8.en p4)] [(true,M.aC.rs r.1),rB r.2]):=⟨λp0 p1 p2 p3 p4 r h=>by
 unfold kY at h
 simp only[EN]
 refine sgO 73 [.cell 10 108,.tmp 11] Tryz.func291 λbase wd => ?_
 refine sq ?_
 apply bJ
 ·simp +decide only[LN,E,reduceIte,Nat.reduceAdd,Nat.reduceMul,qB,qC,L,dQ,EN];exact Is.mk _
 refine an (sq ?_)
 obtain⟨x1,h2,h⟩:=bind_some h
 apply bJ
 ·simp +decide only[LN,E,reduceIte,Nat.reduceAdd,Nat.reduceMul,qB,qC,L,dQ,EN]
  refine⟨_,Yn.1 _ _ h2,?_⟩
  try simp +decide only[LN,E,reduceIte,Nat.reduceAdd,Nat.reduceMul,qB,qC,L,dQ,EN]
  exact Is.mk _
 refine an (sq ?_)
 obtain⟨x3,h4,h⟩:=bind_some h
 apply bJ
 ·simp +decide only[LN,E,reduceIte,Nat.reduceAdd,Nat.reduceMul,qB,qC,L,dQ,EN]
  refine⟨_,aB6.1 _ _ _ h4,?_⟩
  try simp +decide only[LN,E,reduceIte,Nat.reduceAdd,Nat.reduceMul,qB,qC,L,dQ,EN]
  exact Is.mk _
 refine an (sq (sq ?_))
 apply bJ
 ·simp +decide only[LN,E,reduceIte,Nat.reduceAdd,Nat.reduceMul,qB,qC,L,EN];exact Is.mk _
 refine an ?_
 rcases mT (decide (x3<0))with b5 | b5
 ·replace h:=bZ b5 h;refine CF (by simp +decide only[LN,F,reduceIte,Nat.reduceAdd,qB,qC,EN,b5]) ?_;refine sq ?_;apply bJ;(simp +decide only[LN,E,reduceIte,Nat.reduceAdd,Nat.reduceMul,qB,qC,L,dQ,EN,b5];exact Is.mk _);refine an (rt ?_);cases h;simp[Ret,EN,dQ,M.aI5.en,b5]
 replace h:=bY b5 h
 refine Ev (by simp +decide only[LN,F,reduceIte,Nat.reduceAdd,qB,qC,EN,b5]) ?_
 refine sk (an (sq ?_))
 obtain⟨x6,h7,h⟩:=bind_some h
 apply bJ
 ·simp +decide only[LN,E,reduceIte,Nat.reduceAdd,Nat.reduceMul,qB,qC,L,Ql,Ij,EN,b5]
  refine⟨_,aC7.1 _ _ h7,?_⟩
  try simp +decide only[LN,E,reduceIte,Nat.reduceAdd,Nat.reduceMul,qB,qC,L,Ql,Ij,EN,b5]
  exact Is.mk _
 refine an (sq (sq ?_))
 obtain⟨x8,h9,h⟩:=bind_some h
 obtain⟨bm,aa,bn⟩:=wM h9
 obtain⟨ae,aq,h⟩:=bind_some h
 apply bJ
 ·simp +decide only[LN,E,reduceIte,Nat.reduceAdd,Nat.reduceMul,qB,qC,L,FV,dQ,B2,M.aI5.en,EN, *,-h]
  refine⟨_,aCo.1 _ _ _ _ aq,?_⟩
  try simp +decide only[LN,E,reduceIte,Nat.reduceAdd,Nat.reduceMul,qB,qC,L,FV,dQ,B2,M.aI5.en,EN, *,-h]
  exact Is.mk _
 refine an (sq ?_)
 apply bJ
 ·simp +decide only[LN,E,reduceIte,Nat.reduceAdd,Nat.reduceMul,qB,qC,L,EN, *,-h];exact Is.mk _
 refine an ?_
 rcases C1 (decide (ae>=0))with af | af
 ·replace h:=bY af h
  refine Ev (by simp +decide only[LN,F,reduceIte,Nat.reduceAdd,qB,qC,EN, *,-h]) ?_
  refine M0 [5,10,12,13,14] [5,10,12,14,400027] (i:=100017) (ver:=1) (e:=345) (sz:=2) (xs:=List.map M.aI5.en x1.aI1) (j:=x3.toNat) (x:=M.aI5.en x8) (off:=1) (K:=7057000) (e':=351) (sz':=7) (ys:=List.map M.aJE.en x8.aJB) (by first | (simp +decide only[LN,F,reduceIte,Nat.reduceAdd,qB,qC,EN,M.aI5.en,enB, *,-h];done)| (simp +decide only[LN,F,reduceIte,Nat.reduceAdd,qB,qC,EN,M.aI5.en,enB, *,-h];rfl)| rfl) ?_ rfl ?_ rfl (.inl rfl) (λ_ h=>h.elim) jE jE jE ?_ ?_ λu => ?_
  ·rw[List.getElem?_map,aa];rfl
  ·rw[<-(dL B2).sl];rfl
  ·simp +decide only[LC,LN,F,reduceIte,Nat.reduceAdd,qB,qC,EN,M.aI5.en,enB, *,-h]
  ·simp +decide only[LC,LN,F,reduceIte,Nat.reduceAdd,qB,qC,EN,M.aI5.en,enB, *,-h]
  have bo:(List.set (List.map M.aI5.en x1.aI1) x3.toNat [.int .i64 x8.aI0,.val u])[x3.toNat]? = some [.int .i64 x8.aI0,.val u]:=QR (b:=M.aI5.en x8) (by rw[List.getElem?_map,aa];rfl)
  refine dR (J:=λs=>s.t 5 = .v false [.bp 5 1 0]/\s.t 10 = .v false [.bp 10 1 0]/\s.t 12 = .v false [.bp 12 1 0]/\s.t 13 = .v false [.dat (.int .i64 x3)]/\s.t 14 = .v false [.bp 14 1 0]/\s.h 5=(1,.box 108 [.old base (.sl (List.map M.aI5.en p0.aI1)) none])/\s.h 10=(1,.box 108 [.nil])/\s.h 12=(1,.box 108 [.row 100017 1])/\s.h 14=(1,.box 351 [.dat (.str p2),.dat (.str p3),.dat (.int .i64 x6.aJq),.dat (.int .i64 x6.aJn),.dat (.int .i64 x6.aI0),.row 400027 1,.dat (.bool x6.aJu)])/\s.h 100017=(1,.row 345 2 (List.set (List.map M.aI5.en x1.aI1) x3.toNat [.int .i64 x8.aI0,.val u]) true)/\s.h 400027=(1,.row 5 1 (List.map enB x6.aJr) true)/\s.h 7057000=(1,.row 351 7 (List.map M.aJE.en x8.aJB) true)/\s.h 7058000=(1,.pin 7057000 1 u)/\True) ?_ ?_
  ·and_intros<;>(try first | (simp +decide only[LN,F,reduceIte,Nat.reduceAdd,qB,qC,EN,M.aI5.en,M.aJE.en,enB, *,-h];done)| (simp +decide only[LN,F,reduceIte,Nat.reduceAdd,qB,qC,EN,M.aI5.en,M.aJE.en,enB, *,-h];rfl)| rfl)
  rintro bq f57
  obtain⟨br,ar,h⟩:=bind_some h
  apply BH mixed
  ·simp +decide only[LN,E,reduceIte,Nat.reduceAdd,Nat.reduceMul,qB,qC,L,FV,dQ,J8,B2,Ij,M.aI5.en,M.aJE.en,EN, *,-h]
   refine⟨by(have hb:=gO ar);simp[M.aI5.en,M.aJE.en,qE,aO]at hb ⊢ <;> omega,?_⟩
   try simp +decide only[LN,E,reduceIte,Nat.reduceAdd,Nat.reduceMul,qB,qC,L,FV,dQ,J8,B2,Ij,M.aI5.en,M.aJE.en,EN, *,-h]
   exact⟨.mk jF,Is.mk _⟩
  refine an (sq (sq ?_))
  refine dR (J:=λs=>s.t 5 = .v false [.bp 5 1 0]/\s.t 10 = .v false [.bp 10 1 0]/\s.t 12 = .v false [.bp 12 1 0]/\s.h 5=(1,.box 108 [.old base (.sl (List.map M.aI5.en p0.aI1)) none])/\s.h 10=(1,.box 108 [.nil])/\s.h 12=(1,.box 108 [.row 100017 1])/\s.h 100017=(1,.row 345 2 (List.map M.aI5.en (List.set x1.aI1 x3.toNat (⟨x8.aI0,x8.aJB++[(⟨p2,p3,x6⟩:M.aJE)]⟩:M.aI5))) true)/\True) ?_ ?_
  ·and_intros<;>(try simp +decide only[LN,F,reduceIte,Nat.reduceAdd,qB,qC,EN,M.aI5.en, *,-h])
  rintro bt f73
  obtain⟨av,al,h⟩:=bind_some h
  rcases mT (!av)with ah | ah
  ·replace h:=bZ ah h
   apply bJ
   ·simp +decide only[LN,E,reduceIte,Nat.reduceAdd,Nat.reduceMul,qB,qC,L,dQ,EN, *,-h]
    refine⟨_,Zm.1 _ _ al,?_⟩
    try simp +decide only[LN,E,reduceIte,Nat.reduceAdd,Nat.reduceMul,qB,qC,L,dQ,EN, *,-h]
    exact Is.mk _
   refine an ?_
   refine CF (by simp +decide only[LN,F,reduceIte,Nat.reduceAdd,qB,qC,EN, *,-h]) ?_
   refine sq ?_
   obtain⟨bu,aw,h⟩:=bind_some h
   apply bJ
   ·simp +decide only[LN,E,reduceIte,Nat.reduceAdd,Nat.reduceMul,qB,qC,L,dQ,EN, *,-h]
    refine⟨_,Yn.1 _ _ aw,?_⟩
    try simp +decide only[LN,E,reduceIte,Nat.reduceAdd,Nat.reduceMul,qB,qC,L,dQ,EN, *,-h]
    exact Is.mk _
   refine an (rt ?_)
   cases h
   simp[Ret,EN,dQ,M.aI5.en, *]
  replace h:=bY ah h
  obtain⟨ax,ay,h⟩:=bind_some h
  apply bJ
  ·simp +decide only[LN,E,reduceIte,Nat.reduceAdd,Nat.reduceMul,qB,qC,L,dQ,EN, *,-h]
   refine⟨_,Zm.1 _ _ al,?_⟩
   try simp +decide only[LN,E,reduceIte,Nat.reduceAdd,Nat.reduceMul,qB,qC,L,dQ,EN, *,-h]
   refine⟨_,Zm.1 _ _ ay,?_⟩
   try simp +decide only[LN,E,reduceIte,Nat.reduceAdd,Nat.reduceMul,qB,qC,L,dQ,EN, *,-h]
   exact Is.mk _
  refine an ?_
  rcases C1 (!ax)with ai | ai
  ·replace h:=bY ai h;refine Ev (by simp +decide only[LN,F,reduceIte,Nat.reduceAdd,qB,qC,EN, *,-h]) ?_;refine sk (an (sq ?_));apply bJ;(simp +decide only[LN,E,reduceIte,Nat.reduceAdd,Nat.reduceMul,qB,qC,L,dQ,EN, *,-h];exact Is.mk _);refine an (rt ?_);cases h;simp[Ret,EN,dQ,M.aI5.en, *]
  replace h:=bZ ai h
  refine CF (by simp +decide only[LN,F,reduceIte,Nat.reduceAdd,qB,qC,EN, *,-h]) ?_
  refine sq ?_
  obtain⟨bw,az,h⟩:=bind_some h
  apply bJ
  ·simp +decide only[LN,E,reduceIte,Nat.reduceAdd,Nat.reduceMul,qB,qC,L,dQ,EN, *,-h]
   refine⟨_,Yn.1 _ _ az,?_⟩
   try simp +decide only[LN,E,reduceIte,Nat.reduceAdd,Nat.reduceMul,qB,qC,L,dQ,EN, *,-h]
   exact Is.mk _
  refine an (rt ?_)
  cases h
  simp[Ret,EN,dQ,M.aI5.en, *]
 replace h:=bZ af h
 refine CF (by simp +decide only[LN,F,reduceIte,Nat.reduceAdd,qB,qC,EN, *,-h]) ?_
 refine M0 [5,10,12,13,14,15] [5,10,12,14,400027] (i:=100017) (ver:=1) (e:=345) (sz:=2) (xs:=List.map M.aI5.en x1.aI1) (j:=x3.toNat) (x:=M.aI5.en x8) (off:=1) (K:=7057000) (e':=351) (sz':=7) (ys:=List.map M.aJE.en x8.aJB) (by first | (simp +decide only[LN,F,reduceIte,Nat.reduceAdd,qB,qC,EN,M.aI5.en,enB, *,-h];done)| (simp +decide only[LN,F,reduceIte,Nat.reduceAdd,qB,qC,EN,M.aI5.en,enB, *,-h];rfl)| rfl) ?_ rfl ?_ rfl (.inl rfl) (λ_ h=>h.elim) jE jE jE ?_ ?_ λu => ?_
 ·rw[List.getElem?_map,aa];rfl
 ·rw[<-(dL B2).sl];rfl
 ·simp +decide only[LC,LN,F,reduceIte,Nat.reduceAdd,qB,qC,EN,M.aI5.en,enB, *,-h]
 ·simp +decide only[LC,LN,F,reduceIte,Nat.reduceAdd,qB,qC,EN,M.aI5.en,enB, *,-h]
 have ba:(List.set (List.map M.aI5.en x1.aI1) x3.toNat [.int .i64 x8.aI0,.val u])[x3.toNat]? = some [.int .i64 x8.aI0,.val u]:=QR (b:=M.aI5.en x8) (by rw[List.getElem?_map,aa];rfl)
 refine dR (J:=λs=>s.t 5 = .v false [.bp 5 1 0]/\s.t 10 = .v false [.bp 10 1 0]/\s.t 12 = .v false [.bp 12 1 0]/\s.t 13 = .v false [.dat (.int .i64 x3)]/\s.t 14 = .v false [.bp 14 1 0]/\s.t 15 = .v false [.dat (.int .i64 ae)]/\s.h 5=(1,.box 108 [.old base (.sl (List.map M.aI5.en p0.aI1)) none])/\s.h 10=(1,.box 108 [.nil])/\s.h 12=(1,.box 108 [.row 100017 1])/\s.h 14=(1,.box 351 [.dat (.str p2),.dat (.str p3),.dat (.int .i64 x6.aJq),.dat (.int .i64 x6.aJn),.dat (.int .i64 x6.aI0),.row 400027 1,.dat (.bool x6.aJu)])/\s.h 100017=(1,.row 345 2 (List.set (List.map M.aI5.en x1.aI1) x3.toNat [.int .i64 x8.aI0,.val u]) true)/\s.h 400027=(1,.row 5 1 (List.map enB x6.aJr) true)/\s.h 7057000=(1,.row 351 7 (List.map M.aJE.en x8.aJB) true)/\s.h 7058000=(1,.pin 7057000 1 u)/\True) ?_ ?_
 ·and_intros<;>(try first | (simp +decide only[LN,F,reduceIte,Nat.reduceAdd,qB,qC,EN,M.aI5.en,M.aJE.en,enB, *,-h];done)| (simp +decide only[LN,F,reduceIte,Nat.reduceAdd,qB,qC,EN,M.aI5.en,M.aJE.en,enB, *,-h];rfl)| rfl)
 rintro s16 f18
 obtain⟨bx,bd,h⟩:=bind_some h
 obtain⟨bz,c9,ca⟩:=wM bd
 apply BH mixed
 ·simp +decide only[LN,E,reduceIte,Nat.reduceAdd,Nat.reduceMul,qB,qC,L,FV,dQ,J8,B2,Ij,M.aI5.en,M.aJE.en,EN, *,-h];exact⟨.mk jF,Is.mk _⟩
 refine an ?_
 refine GS (Gho.close (i:=100017) (ver:=1) (e:=345) (sz:=2) (xs:=List.set (List.map M.aI5.en x1.aI1) x3.toNat [.int .i64 x8.aI0,.val u]) (j:=x3.toNat) (x:=[.int .i64 x8.aI0,.val u]) (off:=1) (K:=7057000) (vK:=1) (e':=351) (sz':=7) (ys:=List.map M.aJE.en (List.set x8.aJB ae.toNat (⟨p2,p3,x6⟩:M.aJE))) (u:=u) (by first | (simp +decide only[LN,F,reduceIte,Nat.reduceAdd,qB,qC,EN,M.aJE.en, *,-h];done)| (simp +decide only[LN,F,reduceIte,Nat.reduceAdd,qB,qC,EN,M.aJE.en, *,-h];rfl)| rfl) ba rfl (by first | (simp +decide only[LN,F,reduceIte,Nat.reduceAdd,qB,qC,EN,M.aJE.en, *,-h];done)| (simp +decide only[LN,F,reduceIte,Nat.reduceAdd,qB,qC,EN,M.aJE.en, *,-h];rfl)| rfl) (by first | (simp +decide only[LN,F,reduceIte,Nat.reduceAdd,qB,qC,EN,M.aJE.en, *,-h];done)| (simp +decide only[LN,F,reduceIte,Nat.reduceAdd,qB,qC,EN,M.aJE.en, *,-h];rfl)| rfl) (by rw[<-(dL B2).sl];rfl) rfl jE) ?_
 refine sq (sq ?_)
 refine dR (J:=λs=>s.t 5 = .v false [.bp 5 1 0]/\s.t 10 = .v false [.bp 10 1 0]/\s.t 12 = .v false [.bp 12 1 0]/\s.h 5=(1,.box 108 [.old base (.sl (List.map M.aI5.en p0.aI1)) none])/\s.h 10=(1,.box 108 [.nil])/\s.h 12=(1,.box 108 [.row 100017 1])/\s.h 100017=(1,.row 345 2 (List.map M.aI5.en (List.set x1.aI1 x3.toNat (⟨x8.aI0,List.set x8.aJB ae.toNat (⟨p2,p3,x6⟩:M.aJE)⟩:M.aI5))) true)/\True) ?_ ?_
 ·and_intros<;>(try simp +decide only[LN,F,reduceIte,Nat.reduceAdd,qB,qC,EN,M.aI5.en, *,-h])
 rintro cc f38
 obtain⟨bf,ao,h⟩:=bind_some h
 rcases mT (!bf)with aj | aj
 ·replace h:=bZ aj h
  apply bJ
  ·simp +decide only[LN,E,reduceIte,Nat.reduceAdd,Nat.reduceMul,qB,qC,L,dQ,EN, *,-h]
   refine⟨_,Zm.1 _ _ ao,?_⟩
   try simp +decide only[LN,E,reduceIte,Nat.reduceAdd,Nat.reduceMul,qB,qC,L,dQ,EN, *,-h]
   exact Is.mk _
  refine an ?_
  refine CF (by simp +decide only[LN,F,reduceIte,Nat.reduceAdd,qB,qC,EN, *,-h]) ?_
  refine sq ?_
  obtain⟨cd,bg,h⟩:=bind_some h
  apply bJ
  ·simp +decide only[LN,E,reduceIte,Nat.reduceAdd,Nat.reduceMul,qB,qC,L,dQ,EN, *,-h]
   refine⟨_,Yn.1 _ _ bg,?_⟩
   try simp +decide only[LN,E,reduceIte,Nat.reduceAdd,Nat.reduceMul,qB,qC,L,dQ,EN, *,-h]
   exact Is.mk _
  refine an (rt ?_)
  cases h
  simp[Ret,EN,dQ,M.aI5.en, *]
 replace h:=bY aj h
 obtain⟨bh,bj,h⟩:=bind_some h
 apply bJ
 ·simp +decide only[LN,E,reduceIte,Nat.reduceAdd,Nat.reduceMul,qB,qC,L,dQ,EN, *,-h]
  refine⟨_,Zm.1 _ _ ao,?_⟩
  try simp +decide only[LN,E,reduceIte,Nat.reduceAdd,Nat.reduceMul,qB,qC,L,dQ,EN, *,-h]
  refine⟨_,Zm.1 _ _ bj,?_⟩
  try simp +decide only[LN,E,reduceIte,Nat.reduceAdd,Nat.reduceMul,qB,qC,L,dQ,EN, *,-h]
  exact Is.mk _
 refine an ?_
 rcases C1 (!bh)with ak | ak
 ·replace h:=bY ak h;refine Ev (by simp +decide only[LN,F,reduceIte,Nat.reduceAdd,qB,qC,EN, *,-h]) ?_;refine sk (an (sq ?_));apply bJ;(simp +decide only[LN,E,reduceIte,Nat.reduceAdd,Nat.reduceMul,qB,qC,L,dQ,EN, *,-h];exact Is.mk _);refine an (rt ?_);cases h;simp[Ret,EN,dQ,M.aI5.en, *]
 replace h:=bZ ak h
 refine CF (by simp +decide only[LN,F,reduceIte,Nat.reduceAdd,qB,qC,EN, *,-h]) ?_
 refine sq ?_
 obtain⟨cg,bl,h⟩:=bind_some h
 apply bJ
 ·simp +decide only[LN,E,reduceIte,Nat.reduceAdd,Nat.reduceMul,qB,qC,L,dQ,EN, *,-h]
  refine⟨_,Yn.1 _ _ bl,?_⟩
  try simp +decide only[LN,E,reduceIte,Nat.reduceAdd,Nat.reduceMul,qB,qC,L,dQ,EN, *,-h]
  exact Is.mk _
 refine an (rt ?_)
 cases h
 simp[Ret,EN,dQ,M.aI5.en, *]⟩
instance:bE 147 (∀p0 p1 r (h:Bg p0 p1=some r),Sc 147 [aX (M.aIz.en p0),aL enI p1] [(true,M.aIz.rs r.1),rI r.2.1,rB r.2.2]):=⟨λp0 p1 r h=>by unfold Bg at h;exact sgo 21 [.cell 4 105,.tmp 5,.tmp 6] Tryz.func147⟩
instance aCA:bE 546 (∀p0 r (h:lO p0=some r),Sc 546 [(false,[.ptr [.sl (List.map enB p0.b),.int .i64 p0.i,.int .i64 p0.h]])] [(false,[.edit (.lend 304 [.int .i64 r.1,.int .i64 r.2.1])]),(true,M.aE.rs r.2.2)]):=⟨λp0 r h=>by
 unfold lO at h
 simp only[EN]
 refine sgB 22 [.cell 2 129] Tryz.func546 λbase wd B0 u0 hw0=> ?_
 refine dR (J:=λs=>s.t 0=vP 7059000 1 0/\s.h 7059000=(1,oB 304 [.old B0 (.sl (List.map enB p0.b)) (some u0),cI p0.i,cI p0.h])/\True) ?_ ?_
 ·and_intros<;>(try simp only[LN,List.map_cons,List.map_nil])<;>rfl
 rintro s1 f2
 have i1:=E5 [.b 3 0 7050000 262 2] λm s=>∃v4:Int,∃aa:Int,∃ae:Int,∃af:List M.Field,∃ah:Nat,(s.t 0=vP 7059000 1 0/\s.t 2=vP 2 ((s1.h 2).1+1) 0/\s.t 3=vP 3 ((s1.h 3).1+1) 0/\s.t 4=vI v4/\s.h 2=((s1.h 2).1+1,oB 129 [.nil])/\s.h 3=((s1.h 3).1+1,oB 129 [.row 7050000 ah])/\s.h 7050000=(ah,oW 262 2 M.Field.en af)/\s.h 7059000=(1,oB 304 [.old B0 (.sl (List.map enB p0.b)) (some u0),cI aa,cI ae]))/\oO p0 m v4 aa ae af=some r
 have e1:=@oO.eq_2
 exact sgX⟩
instance:bE 308 (∀p0 r (h:BN p0=some r),Sc 308 [aL enB p0] [rW 74 1 (enL enB) r.1,rI r.2]):=⟨λp0 r h=>by
 have i1:=inv λm s=>∃v5:Int,∃aa:List (List Int),∃ae:Nat,(s.t 0=vL enB p0/\s.t 4=vR 100012 ae/\s.t 5=vI v5/\s.h 100012=(ae,oW 74 1 (enL enB) aa))/\vF p0 m v5 aa=some r
 have e1:=@vF.eq_2
 unfold BN at h
 exact sgo 50 [.tmp 2,.tmp 3] Tryz.func308⟩
instance:bE 511 (∀p0 r (h:rN p0=some r),Sc 511 [aL enB p0] [(true,M.aE.rs r.1),rB r.2]):=⟨λp0 r h=>by unfold rN at h;exact sgo 23 [.cell 2 129,.tmp 3] Tryz.func511⟩
instance:bE 172 (∀p0 r (h:wS p0=some r),Sc 172 [aL M.Op.en p0] [rW 5 1 enB r]):=⟨λp0 r h=>by
 have i1:=E5 [.t 3 7050000 5 1] λm s=>∃v4:Int,∃aa:List Int,∃ae:Nat,(s.t 0=vL M.Op.en p0/\s.t 3=vR 7050000 ae/\s.t 4=vI v4/\s.h 7050000=(ae,oW 5 1 enB aa))/\rE p0 m v4 aa=some r
 have e1:=@rE.eq_2
 unfold wS at h
 exact sgo 64 [.tmp 2] Tryz.func172⟩
instance:bE 514 (∀p0 p1 p2 r (h:eK p0 p1 p2=some r),Sc 514 [aX (M.aD.en p0),aX (M.Key.en p1),aX (M.aE.en p2)] [(true,M.aD.rs r.1),rB r.2]):=⟨λp0 p1 p2 r h=>by
 have i1:=λ(aa:M.aD)=>inv λm s=>∃v10:Int,(s.t 3=vP 3 1 0/\s.t 4=vP 4 1 0/\s.t 5=vP 5 1 0/\s.t 6=vP 6 1 0/\s.t 8=vP 8 1 0/\s.t 10=vI v10/\s.h 3=(1,oX 117 (M.aD.en p0))/\s.h 4=(1,oX 136 (M.Key.en p1))/\s.h 5=(1,oX 129 (M.aE.en p2))/\s.h 6=(1,oB 117 [cS (⟨#[]⟩:ByteArray),.nil,cI 0])/\s.h 8=(1,oB 117 [cS aa.Name,.row 200028 1,cI aa.aJa])/\s.h 200028=(1,oW 260 4 M.aJN.en aa.aI6))/\rM p0 p1 p2 aa m v10=some r
 have e1:=@rM.eq_2
 unfold eK at h
 exact sgo 100 [.cell 6 117,.tmp 7] Tryz.func514⟩
instance:bE 516 (∀p0 p1 r (h:tE p0 p1=some r),Sc 516 [aX (M.aD.en p0),aX (M.gT.en p1)] [(true,M.aD.rs r.1),rI r.2]):=⟨λp0 p1 r h=>by
 have i1:=E5 [.b 6 1 7050000 260 4] λm s=>∃v7:Int,∃aa:List M.aJN,∃ae:Nat,(s.t 2=vP 2 1 0/\s.t 3=vP 3 1 0/\s.t 4=vP 4 1 0/\s.t 6=vP 6 1 0/\s.t 7=vI v7/\s.h 2=(1,oX 117 (M.aD.en p0))/\s.h 3=(1,oX 533 (M.gT.en p1))/\s.h 4=(1,oB 117 [cS (⟨#[]⟩:ByteArray),.nil,cI 0])/\s.h 6=(1,oB 117 [cS p0.Name,.row 7050000 ae,cI p0.aJa])/\s.h 7050000=(ae,oW 260 4 M.aJN.en aa))/\iV p0 p1 m v7 aa=some r
 have e1:=@iV.eq_2
 unfold tE at h
 exact sgo 53 [.cell 4 117,.tmp 5] Tryz.func516⟩
instance:bE 173 (∀p0 p1 p2 r (h:xA p0 p1 p2=some r),Sc 173 [aL enB p0,aI p1,aL enB p2] [rW 5 1 enB r.1,rB r.2]):=⟨λp0 p1 p2 r h=>by unfold xA at h;exact sgo 29 [.tmp 6,.tmp 7] Tryz.func173⟩
instance:bE 597 (∀p0 p1 p2 p3 r (h:iW p0 p1 p2 p3=some r),Sc 597 [aX (M.aK.en p0),aX (M.Key.en p1),aS p2,aI p3] [(true,M.aK.rs r.1),rB r.2]):=⟨λp0 p1 p2 p3 r h=>by unfold iW at h;exact sgo 40 [.cell 8 120,.tmp 9] Tryz.func597⟩
instance:bE 606 (∀p0 r (h:Cp p0=some r),Sc 606 [(false,[.ptr [.sl (List.map enB p0.b),.int .i64 p0.i,.int .i64 p0.h]])] [(false,[.edit (.lend 304 [.int .i64 r.1,.int .i64 r.2.1])]),(true,M.Key.rs r.2.2)]):=⟨λp0 r h=>by
 unfold Cp at h
 simp only[EN]
 refine sgB 22 [.cell 2 136] Tryz.func606 λbase wd B0 u0 hw0=> ?_
 refine dR (J:=λs=>s.t 0=vP 7059000 1 0/\s.h 7059000=(1,oB 304 [.old B0 (.sl (List.map enB p0.b)) (some u0),cI p0.i,cI p0.h])/\True) ?_ ?_
 ·and_intros<;>(try simp only[LN,List.map_cons,List.map_nil])<;>rfl
 rintro s1 f2
 exact sgX⟩
instance:bE 644 (∀p0 p1 r (h:dE p0 p1=some r),Sc 644 [aX (M.aK.en p0),aI p1] [(true,M.aK.rs r.1),rI r.2]):=⟨λp0 p1 r h=>by
 have i1:=λ(x1:M.aK)=>inv λm s=>∃v7:Int,(s.t 1=vI p1/\s.t 2=vP 2 1 0/\s.t 4=vP 4 1 0/\s.t 6=vP 6 1 0/\s.t 7=vI v7/\s.h 2=(1,oX 120 (M.aK.en p0))/\s.h 4=(1,oB 120 [cI 0,cI 0,.nil])/\s.h 6=(1,oB 120 [cI x1.aJA,cI x1.aJd,.row 300009 1])/\s.h 300009=(1,oW 328 7 M.bC.en x1.aJM))/\pT p0 p1 x1 m v7=some r
 have e1:=@pT.eq_2
 unfold dE at h
 exact sgo 40 [.cell 4 120,.tmp 5] Tryz.func644⟩
