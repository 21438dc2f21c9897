/-
  Helper text. No conditions.
-/
import Derived.Test.YtbpbocchokbggaaGreatWriteNoteWeq
import Derived.Test.YtbpbocchokbggaaGreatWriteNoteWheld
import Derived.Test.YtbpbocchokbggaaGreatWriteNoteWimpl3
import Derived.Test.YtbpbocchokbggaaGreatWriteNoteWmark2
import Derived.Test.YtbpbocchokbggaaGreatWriteNoteWspec3
import Derived.Test.YtbpbocchokbggaaGreatWriteNoteWsz
import Derived.Test.YtbpbocchokbggaaGreatWriteNoteWto
set_option linter.all false
namespace Go.Proofs.YtbpbocchokbggaaGreat.gen
open Go Go.Sh
set_option maxRecDepth 20000
set_option maxHeartbeats 4000000
theorem EL(J:M.World)(I:M.bS)(p2:Int)(p3:ByteArray)(p4:Int)(r:Bool)(h:nE J I p2 p3 p4=some r):nB Tryz.prog 3 [(true,M.World.en J),(true,M.bS.en I),(false,[.int .i64 p2]),(false,[.str p3]),(false,[.int .i64 p4])] [(false,[.ro (.bool r)])]:=by
 unfold nE at h
 simp only[M.bS.en,M.World.en]
 refine Vw (N:=137) (vars:=[.tmp 10]) Tryz.func3 rfl rfl rfl jH (Nat.le_of_ble_eq_true rfl) λbase wd => ?_
 refine sq (ln ?_)
 refine an (sq (sq (ln ?_)))
 refine an ?_
 rcases dQ (decide ((p3.size:Int)>1048576))with b1 | b1
 ·replace h:=bR b1 h;refine lct (sq (ln ?_));refine an (rt ?_);cases h;simp[Ret,TB,EN, *]
 replace h:=bQ b1 h
 refine lcf (sk (an (sq (ln ?_))))
 refine an (sq ?_)
 obtain⟨x2,h3,h⟩:=bind_some h
 refine ln1 (c6 _ _ _ h3) ?_
 refine an (sq (sq (ln ?_)))
 refine an ?_
 rcases dQ (decide (x2<0))with b4 | b4
 ·replace h:=bR b4 h;refine lct (sq (ln ?_));refine an (rt ?_);cases h;simp[Ret,TB,EN, *]
 replace h:=bQ b4 h
 refine lcf (sk (an (sq ?_)))
 obtain⟨x5,h6,h⟩:=bind_some h
 refine ln1 (c7.1 _ _ _ h6) ?_
 refine an (sq (sq (ln ?_)))
 refine an ?_
 rcases dQ (decide (x5<0))with b7 | b7
 ·replace h:=bR b7 h;refine lct (sq (ln ?_));refine an (rt ?_);cases h;simp[Ret,TB,EN, *]
 replace h:=bQ b7 h
 refine lcf (sk (an (sq ?_)))
 obtain⟨x8,h9,h⟩:=bind_some h
 obtain⟨dj,cc,h⟩:=bind_some h
 obtain⟨C,cd,h⟩:=bind_some h
 apply E3 mixed
 ·simp +decide only[LX,E,reduceIte,Nat.reduceAdd,Nat.reduceMul,qB,qC,L,TX,T9,Uk,EN,b1,b4,b7]
  refine⟨_,c9 _ _ h9,?_⟩
  try simp +decide only[LX,E,reduceIte,Nat.reduceAdd,Nat.reduceMul,qB,qC,L,TX,T9,Uk,EN,b1,b4,b7]
  refine⟨_,c10.1 _ _ cc,?_⟩
  try simp +decide only[LX,E,reduceIte,Nat.reduceAdd,Nat.reduceMul,qB,qC,L,TX,T9,Uk,EN,b1,b4,b7]
  refine⟨_,c8 _ _ _ _ _ _ cd,?_⟩
  try simp +decide only[LX,E,reduceIte,Nat.reduceAdd,Nat.reduceMul,qB,qC,L,TX,T9,Uk,EN,b1,b4,b7]
  exact⟨.mk jH,Is.mk _⟩
 refine an (sq ?_)
 obtain⟨ai,cg,h⟩:=bind_some h
 refine ln1 (c9 _ _ cg) ?_
 refine an (sq ?_)
 obtain⟨U,cj,h⟩:=bind_some h
 refine ln1 (c10.1 _ _ cj) ?_
 refine an (sq ?_)
 obtain⟨j,ck,h⟩:=bind_some h
 refine ln1 (c11 _ _ _ _ _ _ ck) ?_
 refine an (sq (sq ?_))
 obtain⟨cn,ca,h⟩:=bind_some h
 rcases dQ (!cn)with av | av
 ·replace h:=bR av h;refine ln1 (c12 _ _ _ ca) ?_;refine an (lct (sq (ln ?_)));refine an (rt ?_);cases h;simp[Ret,TB,EN, *]
 replace h:=bQ av h
 refine ln1 (c12 _ _ _ ca) ?_
 refine an ?_
 rcases dQ (!(j.2==C.2))with aw | aw
 ·replace h:=bR aw h;refine lct (sq (ln ?_));refine an (rt ?_);cases h;simp[Ret,TB,EN, *]
 replace h:=bQ aw h
 refine lcf (sk (an (sq (sq ?_))))
 refine lcu (λs=>s.t 2 = .v false [.dat (.int .i64 p2)]/\s.t 3 = .v false [.dat (.str p3)]/\s.t 4 = .v false [.dat (.int .i64 p4)]/\s.t 5 = .v false [.bp 5 1 0]/\s.t 6 = .v false [.bp 6 1 0]/\s.t 12 = .v false [.bp 12 1 0]/\s.t 13 = .v false [.dat (.bool C.2)]/\s.t 14 = .v false [.bp 14 1 0]/\s.t 15 = .v false [.bp 15 1 0]/\s.t 16 = .v false [.bp 16 1 0]/\s.t 17 = .v false [.dat (.bool j.2)]/\s.h 5=(1,.box 35 [.dat (.int .i64 J.Now),.dat (.bool J.aEs),.dat (.int .i64 J.aEd),.old base (.sl (List.map M.aEJ.en J.aD.aEP)) none,.old base (.sl (List.map M.bS.en J.aEq)) none,.dat (.int .i64 J.aEl),.old base (.sl (List.map M.eV.en J.aEh.aEh)) none,.old base (.sl (List.map M.gT.en J.aEY.aEv)) none,.old base (.sl (List.map M.aET.en J.aEr)) none,.old base (.sl (List.map M.aEX.en J.aEi)) none])/\s.h 6=(1,.box 42 [.dat (.int .i64 I.Id),.dat (.str I.aET),.dat (.str I.Top),.dat (.int .i64 I.aER),.old base (.sl (List.map M.aK.en I.aK)) none,.old base (.sl (List.map M.Instr.en I.aEO.aEp)) none,.dat (.int .i64 I.aEO.Pc),.old base (.sl (List.map enI I.aEO.aE3)) none,.dat (.int .i64 I.aEO.aE2),.dat (.bool I.aEO.aFG),.dat (.bool I.aEO.aFH)])/\s.h 12=(1,.box 58 [.dat (.int .i64 C.1.Now),.dat (.bool C.1.aEs),.dat (.int .i64 C.1.aEd),.row 400044 1,.row 500044 1,.dat (.int .i64 C.1.aEl),.row 700044 1,.row 800044 1,.row 900044 1,.row 1000044 1])/\s.h 14=(1,.box 58 [.dat (.int .i64 ai.Now),.dat (.bool ai.aEs),.dat (.int .i64 ai.aEd),.row 400048 1,.row 500048 1,.dat (.int .i64 ai.aEl),.row 700048 1,.row 800048 1,.row 900048 1,.row 1000048 1])/\s.h 15=(1,.box 67 [.dat (.int .i64 U.Id),.dat (.str U.aET),.dat (.str U.Top),.dat (.int .i64 U.aER),.row 500050 1,.row 600050 1,.dat (.int .i64 U.aEO.Pc),.row 800050 1,.dat (.int .i64 U.aEO.aE2),.dat (.bool U.aEO.aFG),.dat (.bool U.aEO.aFH)])/\s.h 16=(1,.box 58 [.dat (.int .i64 j.1.Now),.dat (.bool j.1.aEs),.dat (.int .i64 j.1.aEd),.row 400057 1,.row 500057 1,.dat (.int .i64 j.1.aEl),.row 700057 1,.row 800057 1,.row 900057 1,.row 1000057 1])/\s.h 400044=(1,.row 126 24 (List.map M.aEJ.en C.1.aD.aEP) true)/\s.h 400048=(1,.row 126 24 (List.map M.aEJ.en ai.aD.aEP) true)/\s.h 400057=(1,.row 126 24 (List.map M.aEJ.en j.1.aD.aEP) true)/\s.h 500044=(1,.row 67 11 (List.map M.bS.en C.1.aEq) true)/\s.h 500048=(1,.row 67 11 (List.map M.bS.en ai.aEq) true)/\s.h 500050=(1,.row 81 2 (List.map M.aK.en U.aK) true)/\s.h 500057=(1,.row 67 11 (List.map M.bS.en j.1.aEq) true)/\s.h 600050=(1,.row 308 4 (List.map M.Instr.en U.aEO.aEp) true)/\s.h 700044=(1,.row 196 4 (List.map M.eV.en C.1.aEh.aEh) true)/\s.h 700048=(1,.row 196 4 (List.map M.eV.en ai.aEh.aEh) true)/\s.h 700057=(1,.row 196 4 (List.map M.eV.en j.1.aEh.aEh) true)/\s.h 800044=(1,.row 199 3 (List.map M.gT.en C.1.aEY.aEv) true)/\s.h 800048=(1,.row 199 3 (List.map M.gT.en ai.aEY.aEv) true)/\s.h 800050=(1,.row 3 1 (List.map enI U.aEO.aE3) true)/\s.h 800057=(1,.row 199 3 (List.map M.gT.en j.1.aEY.aEv) true)/\s.h 900044=(1,.row 92 4 (List.map M.aET.en C.1.aEr) true)/\s.h 900048=(1,.row 92 4 (List.map M.aET.en ai.aEr) true)/\s.h 900057=(1,.row 92 4 (List.map M.aET.en j.1.aEr) true)/\s.h 1000044=(1,.row 205 5 (List.map M.aEX.en C.1.aEi) true)/\s.h 1000048=(1,.row 205 5 (List.map M.aEX.en ai.aEi) true)/\s.h 1000057=(1,.row 205 5 (List.map M.aEX.en j.1.aEi) true)/\True) ?_
 rintro dm f25
 obtain⟨dn,cq,h⟩:=bind_some h
 obtain⟨cr,cw,h⟩:=bind_some h
 refine ld2 mixed (c9 _ _ cq) (c12 _ _ _ cw) ?_
 refine an ?_
 rcases dQ (!cr)with ax | ax
 ·replace h:=bR ax h;refine lct (sq (ln ?_));refine an (rt ?_);cases h;simp[Ret,TB,EN, *]
 replace h:=bQ ax h
 refine lcf (sk (an (sq (sq ?_))))
 obtain⟨dq,cy,h⟩:=bind_some h
 obtain⟨cz,da,h⟩:=bind_some h
 refine ld2 mixed (c10.1 _ _ cy) (c13.1 _ _ _ da) ?_
 refine an ?_
 rcases dQ (!cz)with ay | ay
 ·replace h:=bR ay h;refine lct (sq (ln ?_));refine an (rt ?_);cases h;simp[Ret,TB,EN, *]
 replace h:=bQ ay h
 refine lcf (sk (an (sq (ln ?_))))
 refine an (sq ?_)
 obtain⟨ar,db,h⟩:=bind_some h
 refine OQ (n:=2) (x:=79) (y:=80) (d:=81) (ag:=true) (cs:=[.dat (.int .i64 ai.Now),.dat (.bool ai.aEs),.dat (.int .i64 ai.aEd),.row 400048 1,.row 500048 1,.dat (.int .i64 ai.aEl),.row 700048 1,.row 800048 1,.row 900048 1,.row 1000048 1]) (k:=1) [2,3,4,5,6,12,13,15,16,17,18] [5,6,12,15,16,400044,400057,500044,500050,500057,600050,700044,700057,800044,800050,800057,900044,900057,1000044,1000057] rfl rfl rfl rfl rfl jG ?_ ?_ ?_ (EO ai 1 ar db) ?_ (by simp +decide [Bd]) ?_ ?_ ?_ ?_ (s1 := ?S190) (s3 := ?S191)
 rotate_left 2
 ·simp +decide only[LX,E,reduceIte,Nat.reduceAdd,Nat.reduceMul,Int.reduceEq,Int.reduceLT,qB,qC,L,TB,EN, *,-h];exact Is.mk _
 ·simp +decide only[LX,F,reduceIte,Nat.reduceAdd,qB,qC,EN, *,-h]
 ·simp +decide only[LX,F,reduceIte,Nat.reduceAdd,qB,qC,EN, *,-h]
 ·refine⟨_,_,rfl,rfl,rfl,?_⟩;refine⟨_,_,rfl,rfl,rfl,?_⟩;refine⟨_,_,rfl,rfl,rfl,?_⟩;refine⟨126,24,List.map M.aEJ.en ai.aD.aEP,List.map M.aEJ.en ar.1,_,_,by simp +decide only[LX,F,reduceIte,Nat.reduceAdd,qB,qC,EN, *,-h],Dy (f:=M.aEJ.en) (λ_=>rfl) _,rfl,rfl,?_⟩;refine⟨67,11,List.map M.bS.en ai.aEq,List.map M.bS.en ar.2.1,_,_,by simp +decide only[LX,F,reduceIte,Nat.reduceAdd,qB,qC,EN, *,-h],Dy (f:=M.bS.en) (λ_=>rfl) _,rfl,rfl,?_⟩;refine⟨_,_,rfl,rfl,rfl,?_⟩;refine⟨196,4,List.map M.eV.en ai.aEh.aEh,List.map M.eV.en ar.2.2.1,_,_,by simp +decide only[LX,F,reduceIte,Nat.reduceAdd,qB,qC,EN, *,-h],Dy (f:=M.eV.en) (λ_=>rfl) _,rfl,rfl,?_⟩;refine⟨199,3,List.map M.gT.en ai.aEY.aEv,List.map M.gT.en ar.2.2.2.1,_,_,by simp +decide only[LX,F,reduceIte,Nat.reduceAdd,qB,qC,EN, *,-h],Dy (f:=M.gT.en) (λ_=>rfl) _,rfl,rfl,?_⟩;refine⟨92,4,List.map M.aET.en ai.aEr,List.map M.aET.en ar.2.2.2.2.1,_,_,by simp +decide only[LX,F,reduceIte,Nat.reduceAdd,qB,qC,EN, *,-h],Dy (f:=M.aET.en) (λ_=>rfl) _,rfl,rfl,?_⟩;refine⟨205,5,List.map M.aEX.en ai.aEi,List.map M.aEX.en ar.2.2.2.2.2.1,_,_,by simp +decide only[LX,F,reduceIte,Nat.reduceAdd,qB,qC,EN, *,-h],Dy (f:=M.aEX.en) (λ_=>rfl) _,rfl,rfl,?_⟩;exact⟨rfl,rfl⟩
 ·simp +decide only[LC,LX,F,reduceIte,Nat.reduceAdd,qB,qC,EN, *,-h]
 ·simp +decide only[LC,LX,F,reduceIte,Nat.reduceAdd,qB,qC,EN, *,-h]
 ·simp +decide only[LX,E,reduceIte,Nat.reduceAdd,Nat.reduceMul,Int.reduceEq,Int.reduceLT,qB,qC,L,TB,EN, *,-h];exact Is.mk _
 refine an (sq ?_)
 refine lcu (λs=>s.t 2 = .v false [.dat (.int .i64 p2)]/\s.t 3 = .v false [.dat (.str p3)]/\s.t 4 = .v false [.dat (.int .i64 p4)]/\s.t 5 = .v false [.bp 5 1 0]/\s.t 6 = .v false [.bp 6 1 0]/\s.t 12 = .v false [.bp 12 1 0]/\s.t 13 = .v false [.dat (.bool C.2)]/\s.t 15 = .v false [.bp 15 1 0]/\s.t 16 = .v false [.bp 16 1 0]/\s.t 17 = .v false [.dat (.bool j.2)]/\s.t 18 = .v false [.dat (.int .i64 ar.2.2.2.2.2.2)]/\s.h 5=(1,.box 35 [.dat (.int .i64 J.Now),.dat (.bool J.aEs),.dat (.int .i64 J.aEd),.old base (.sl (List.map M.aEJ.en J.aD.aEP)) none,.old base (.sl (List.map M.bS.en J.aEq)) none,.dat (.int .i64 J.aEl),.old base (.sl (List.map M.eV.en J.aEh.aEh)) none,.old base (.sl (List.map M.gT.en J.aEY.aEv)) none,.old base (.sl (List.map M.aET.en J.aEr)) none,.old base (.sl (List.map M.aEX.en J.aEi)) none])/\s.h 6=(1,.box 42 [.dat (.int .i64 I.Id),.dat (.str I.aET),.dat (.str I.Top),.dat (.int .i64 I.aER),.old base (.sl (List.map M.aK.en I.aK)) none,.old base (.sl (List.map M.Instr.en I.aEO.aEp)) none,.dat (.int .i64 I.aEO.Pc),.old base (.sl (List.map enI I.aEO.aE3)) none,.dat (.int .i64 I.aEO.aE2),.dat (.bool I.aEO.aFG),.dat (.bool I.aEO.aFH)])/\s.h 12=(1,.box 58 [.dat (.int .i64 C.1.Now),.dat (.bool C.1.aEs),.dat (.int .i64 C.1.aEd),.row 400044 1,.row 500044 1,.dat (.int .i64 C.1.aEl),.row 700044 1,.row 800044 1,.row 900044 1,.row 1000044 1])/\s.h 15=(1,.box 67 [.dat (.int .i64 U.Id),.dat (.str U.aET),.dat (.str U.Top),.dat (.int .i64 U.aER),.row 500050 1,.row 600050 1,.dat (.int .i64 U.aEO.Pc),.row 800050 1,.dat (.int .i64 U.aEO.aE2),.dat (.bool U.aEO.aFG),.dat (.bool U.aEO.aFH)])/\s.h 16=(1,.box 58 [.dat (.int .i64 j.1.Now),.dat (.bool j.1.aEs),.dat (.int .i64 j.1.aEd),.row 400057 1,.row 500057 1,.dat (.int .i64 j.1.aEl),.row 700057 1,.row 800057 1,.row 900057 1,.row 1000057 1])/\s.h 400044=(1,.row 126 24 (List.map M.aEJ.en C.1.aD.aEP) true)/\s.h 400057=(1,.row 126 24 (List.map M.aEJ.en j.1.aD.aEP) true)/\s.h 500044=(1,.row 67 11 (List.map M.bS.en C.1.aEq) true)/\s.h 500050=(1,.row 81 2 (List.map M.aK.en U.aK) true)/\s.h 500057=(1,.row 67 11 (List.map M.bS.en j.1.aEq) true)/\s.h 600050=(1,.row 308 4 (List.map M.Instr.en U.aEO.aEp) true)/\s.h 700044=(1,.row 196 4 (List.map M.eV.en C.1.aEh.aEh) true)/\s.h 700057=(1,.row 196 4 (List.map M.eV.en j.1.aEh.aEh) true)/\s.h 800044=(1,.row 199 3 (List.map M.gT.en C.1.aEY.aEv) true)/\s.h 800050=(1,.row 3 1 (List.map enI U.aEO.aE3) true)/\s.h 800057=(1,.row 199 3 (List.map M.gT.en j.1.aEY.aEv) true)/\s.h 900044=(1,.row 92 4 (List.map M.aET.en C.1.aEr) true)/\s.h 900057=(1,.row 92 4 (List.map M.aET.en j.1.aEr) true)/\s.h 1000044=(1,.row 205 5 (List.map M.aEX.en C.1.aEi) true)/\s.h 1000057=(1,.row 205 5 (List.map M.aEX.en j.1.aEi) true)/\True) ?_
 rintro du f76
 obtain⟨aq,bm,h⟩:=bind_some h
 refine OQ (n:=2) (x:=82) (y:=83) (d:=84) (ag:=true) (cs:=[.dat (.int .i64 U.Id),.dat (.str U.aET),.dat (.str U.Top),.dat (.int .i64 U.aER),.row 500050 1,.row 600050 1,.dat (.int .i64 U.aEO.Pc),.row 800050 1,.dat (.int .i64 U.aEO.aE2),.dat (.bool U.aEO.aFG),.dat (.bool U.aEO.aFH)]) (k:=ar.2.2.2.2.2.2) [2,3,4,5,6,12,13,16,17,18] [5,6,12,16,400044,400057,500044,500057,700044,700057,800044,800057,900044,900057,1000044,1000057] rfl rfl rfl rfl rfl jG ?_ ?_ ?_ (J3 U ar.2.2.2.2.2.2 aq bm) ?_ (by simp +decide [Bd]) ?_ ?_ ?_ ?_ (s1 := ?S188) (s3 := ?S189)
 rotate_left 2
 ·simp +decide only[LX,E,reduceIte,Nat.reduceAdd,Nat.reduceMul,Int.reduceEq,Int.reduceLT,qB,qC,L,TB,EN, *,-h];exact Is.mk _
 ·simp +decide only[LX,F,reduceIte,Nat.reduceAdd,qB,qC,EN, *,-h]
 ·simp +decide only[LX,F,reduceIte,Nat.reduceAdd,qB,qC,EN, *,-h]
 ·refine⟨_,_,rfl,rfl,rfl,?_⟩;refine⟨_,_,rfl,rfl,rfl,?_⟩;refine⟨_,_,rfl,rfl,rfl,?_⟩;refine⟨_,_,rfl,rfl,rfl,?_⟩;refine⟨81,2,List.map M.aK.en U.aK,List.map M.aK.en aq.1,_,_,by simp +decide only[LX,F,reduceIte,Nat.reduceAdd,qB,qC,EN, *,-h],Dy (f:=M.aK.en) (λ_=>rfl) _,rfl,rfl,?_⟩;refine⟨308,4,List.map M.Instr.en U.aEO.aEp,List.map M.Instr.en aq.2.1,_,_,by simp +decide only[LX,F,reduceIte,Nat.reduceAdd,qB,qC,EN, *,-h],Dy (f:=M.Instr.en) (λ_=>rfl) _,rfl,rfl,?_⟩;refine⟨_,_,rfl,rfl,rfl,?_⟩;refine⟨3,1,List.map enI U.aEO.aE3,List.map enI aq.2.2.1,_,_,by simp +decide only[LX,F,reduceIte,Nat.reduceAdd,qB,qC,EN, *,-h],Dy (f:=enI) (λ_=>rfl) _,rfl,rfl,?_⟩;refine⟨_,_,rfl,rfl,rfl,?_⟩;refine⟨_,_,rfl,rfl,rfl,?_⟩;refine⟨_,_,rfl,rfl,rfl,?_⟩;exact⟨rfl,rfl⟩
 ·simp +decide only[LC,LX,F,reduceIte,Nat.reduceAdd,qB,qC,EN, *,-h]
 ·simp +decide only[LC,LX,F,reduceIte,Nat.reduceAdd,qB,qC,EN, *,-h]
 ·simp +decide only[LX,E,reduceIte,Nat.reduceAdd,Nat.reduceMul,Int.reduceEq,Int.reduceLT,qB,qC,L,TB,EN, *,-h];exact Is.mk _
 refine an (sq (sq ?_))
 refine lcu (λs=>s.t 2 = .v false [.dat (.int .i64 p2)]/\s.t 3 = .v false [.dat (.str p3)]/\s.t 4 = .v false [.dat (.int .i64 p4)]/\s.t 5 = .v false [.bp 5 1 0]/\s.t 6 = .v false [.bp 6 1 0]/\s.t 12 = .v false [.bp 12 1 0]/\s.t 13 = .v false [.dat (.bool C.2)]/\s.t 16 = .v false [.bp 16 1 0]/\s.t 17 = .v false [.dat (.bool j.2)]/\s.t 18 = .v false [.dat (.int .i64 aq.2.2.2)]/\s.h 5=(1,.box 35 [.dat (.int .i64 J.Now),.dat (.bool J.aEs),.dat (.int .i64 J.aEd),.old base (.sl (List.map M.aEJ.en J.aD.aEP)) none,.old base (.sl (List.map M.bS.en J.aEq)) none,.dat (.int .i64 J.aEl),.old base (.sl (List.map M.eV.en J.aEh.aEh)) none,.old base (.sl (List.map M.gT.en J.aEY.aEv)) none,.old base (.sl (List.map M.aET.en J.aEr)) none,.old base (.sl (List.map M.aEX.en J.aEi)) none])/\s.h 6=(1,.box 42 [.dat (.int .i64 I.Id),.dat (.str I.aET),.dat (.str I.Top),.dat (.int .i64 I.aER),.old base (.sl (List.map M.aK.en I.aK)) none,.old base (.sl (List.map M.Instr.en I.aEO.aEp)) none,.dat (.int .i64 I.aEO.Pc),.old base (.sl (List.map enI I.aEO.aE3)) none,.dat (.int .i64 I.aEO.aE2),.dat (.bool I.aEO.aFG),.dat (.bool I.aEO.aFH)])/\s.h 12=(1,.box 58 [.dat (.int .i64 C.1.Now),.dat (.bool C.1.aEs),.dat (.int .i64 C.1.aEd),.row 400044 1,.row 500044 1,.dat (.int .i64 C.1.aEl),.row 700044 1,.row 800044 1,.row 900044 1,.row 1000044 1])/\s.h 16=(1,.box 58 [.dat (.int .i64 j.1.Now),.dat (.bool j.1.aEs),.dat (.int .i64 j.1.aEd),.row 400057 1,.row 500057 1,.dat (.int .i64 j.1.aEl),.row 700057 1,.row 800057 1,.row 900057 1,.row 1000057 1])/\s.h 400044=(1,.row 126 24 (List.map M.aEJ.en C.1.aD.aEP) true)/\s.h 400057=(1,.row 126 24 (List.map M.aEJ.en j.1.aD.aEP) true)/\s.h 500044=(1,.row 67 11 (List.map M.bS.en C.1.aEq) true)/\s.h 500057=(1,.row 67 11 (List.map M.bS.en j.1.aEq) true)/\s.h 700044=(1,.row 196 4 (List.map M.eV.en C.1.aEh.aEh) true)/\s.h 700057=(1,.row 196 4 (List.map M.eV.en j.1.aEh.aEh) true)/\s.h 800044=(1,.row 199 3 (List.map M.gT.en C.1.aEY.aEv) true)/\s.h 800057=(1,.row 199 3 (List.map M.gT.en j.1.aEY.aEv) true)/\s.h 900044=(1,.row 92 4 (List.map M.aET.en C.1.aEr) true)/\s.h 900057=(1,.row 92 4 (List.map M.aET.en j.1.aEr) true)/\s.h 1000044=(1,.row 205 5 (List.map M.aEX.en C.1.aEi) true)/\s.h 1000057=(1,.row 205 5 (List.map M.aEX.en j.1.aEi) true)/\True) ?_
 rintro df f110
 rcases dQ (decide (aq.2.2.2<0))with aj | aj
 ·replace h:=bR aj h;refine ln ?_;refine an (lct (sq (ln ?_)));refine an (rt ?_);cases h;simp[Ret,TB,EN, *]
 replace h:=bQ aj h
 obtain⟨bn,bg,h⟩:=bind_some h
 rcases dQ (!bn)with ak | ak
 ·replace h:=bR ak h;refine ln1 (c12 _ _ _ bg) ?_;refine an (lct (sq (ln ?_)));refine an (rt ?_);cases h;simp[Ret,TB,EN, *]
 replace h:=bQ ak h
 refine ln1 (c12 _ _ _ bg) ?_
 refine an (lcf (sk (an (sq (ln ?_)))))
 refine an (sq ?_)
 obtain⟨ah,bo,h⟩:=bind_some h
 refine OQ (n:=2) (x:=98) (y:=99) (d:=100) (ag:=true) (cs:=[.dat (.int .i64 j.1.Now),.dat (.bool j.1.aEs),.dat (.int .i64 j.1.aEd),.row 400057 1,.row 500057 1,.dat (.int .i64 j.1.aEl),.row 700057 1,.row 800057 1,.row 900057 1,.row 1000057 1]) (k:=1) [2,3,4,5,6,12,13,16,19] [5,6,12,16,400044,400057,500044,500057,700044,700057,800044,800057,900044,900057,1000044,1000057] rfl rfl rfl rfl rfl jG ?_ ?_ ?_ (EO j.1 1 ah bo) ?_ (by simp +decide [Bd]) ?_ ?_ ?_ ?_ (s1 := ?S186) (s3 := ?S187)
 rotate_left 2
 ·simp +decide only[LX,E,reduceIte,Nat.reduceAdd,Nat.reduceMul,Int.reduceEq,Int.reduceLT,qB,qC,L,TB,EN, *,-h];exact Is.mk _
 ·simp +decide only[LX,F,reduceIte,Nat.reduceAdd,qB,qC,EN, *,-h]
 ·simp +decide only[LX,F,reduceIte,Nat.reduceAdd,qB,qC,EN, *,-h]
 ·refine⟨_,_,rfl,rfl,rfl,?_⟩;refine⟨_,_,rfl,rfl,rfl,?_⟩;refine⟨_,_,rfl,rfl,rfl,?_⟩;refine⟨126,24,List.map M.aEJ.en j.1.aD.aEP,List.map M.aEJ.en ah.1,_,_,by simp +decide only[LX,F,reduceIte,Nat.reduceAdd,qB,qC,EN, *,-h],Dy (f:=M.aEJ.en) (λ_=>rfl) _,rfl,rfl,?_⟩;refine⟨67,11,List.map M.bS.en j.1.aEq,List.map M.bS.en ah.2.1,_,_,by simp +decide only[LX,F,reduceIte,Nat.reduceAdd,qB,qC,EN, *,-h],Dy (f:=M.bS.en) (λ_=>rfl) _,rfl,rfl,?_⟩;refine⟨_,_,rfl,rfl,rfl,?_⟩;refine⟨196,4,List.map M.eV.en j.1.aEh.aEh,List.map M.eV.en ah.2.2.1,_,_,by simp +decide only[LX,F,reduceIte,Nat.reduceAdd,qB,qC,EN, *,-h],Dy (f:=M.eV.en) (λ_=>rfl) _,rfl,rfl,?_⟩;refine⟨199,3,List.map M.gT.en j.1.aEY.aEv,List.map M.gT.en ah.2.2.2.1,_,_,by simp +decide only[LX,F,reduceIte,Nat.reduceAdd,qB,qC,EN, *,-h],Dy (f:=M.gT.en) (λ_=>rfl) _,rfl,rfl,?_⟩;refine⟨92,4,List.map M.aET.en j.1.aEr,List.map M.aET.en ah.2.2.2.2.1,_,_,by simp +decide only[LX,F,reduceIte,Nat.reduceAdd,qB,qC,EN, *,-h],Dy (f:=M.aET.en) (λ_=>rfl) _,rfl,rfl,?_⟩;refine⟨205,5,List.map M.aEX.en j.1.aEi,List.map M.aEX.en ah.2.2.2.2.2.1,_,_,by simp +decide only[LX,F,reduceIte,Nat.reduceAdd,qB,qC,EN, *,-h],Dy (f:=M.aEX.en) (λ_=>rfl) _,rfl,rfl,?_⟩;exact⟨rfl,rfl⟩
 ·simp +decide only[LC,LX,F,reduceIte,Nat.reduceAdd,qB,qC,EN, *,-h]
 ·simp +decide only[LC,LX,F,reduceIte,Nat.reduceAdd,qB,qC,EN, *,-h]
 ·simp +decide only[LX,E,reduceIte,Nat.reduceAdd,Nat.reduceMul,Int.reduceEq,Int.reduceLT,qB,qC,L,TB,EN, *,-h];exact Is.mk _
 refine an (sq ?_)
 refine lcu (λs=>s.t 2 = .v false [.dat (.int .i64 p2)]/\s.t 3 = .v false [.dat (.str p3)]/\s.t 4 = .v false [.dat (.int .i64 p4)]/\s.t 5 = .v false [.bp 5 1 0]/\s.t 6 = .v false [.bp 6 1 0]/\s.t 12 = .v false [.bp 12 1 0]/\s.t 13 = .v false [.dat (.bool C.2)]/\s.t 16 = .v false [.bp 16 1 0]/\s.t 19 = .v false [.dat (.int .i64 ah.2.2.2.2.2.2)]/\s.h 5=(1,.box 35 [.dat (.int .i64 J.Now),.dat (.bool J.aEs),.dat (.int .i64 J.aEd),.old base (.sl (List.map M.aEJ.en J.aD.aEP)) none,.old base (.sl (List.map M.bS.en J.aEq)) none,.dat (.int .i64 J.aEl),.old base (.sl (List.map M.eV.en J.aEh.aEh)) none,.old base (.sl (List.map M.gT.en J.aEY.aEv)) none,.old base (.sl (List.map M.aET.en J.aEr)) none,.old base (.sl (List.map M.aEX.en J.aEi)) none])/\s.h 6=(1,.box 42 [.dat (.int .i64 I.Id),.dat (.str I.aET),.dat (.str I.Top),.dat (.int .i64 I.aER),.old base (.sl (List.map M.aK.en I.aK)) none,.old base (.sl (List.map M.Instr.en I.aEO.aEp)) none,.dat (.int .i64 I.aEO.Pc),.old base (.sl (List.map enI I.aEO.aE3)) none,.dat (.int .i64 I.aEO.aE2),.dat (.bool I.aEO.aFG),.dat (.bool I.aEO.aFH)])/\s.h 12=(1,.box 58 [.dat (.int .i64 C.1.Now),.dat (.bool C.1.aEs),.dat (.int .i64 C.1.aEd),.row 400044 1,.row 500044 1,.dat (.int .i64 C.1.aEl),.row 700044 1,.row 800044 1,.row 900044 1,.row 1000044 1])/\s.h 16=(1,.box 58 [.dat (.int .i64 j.1.Now),.dat (.bool j.1.aEs),.dat (.int .i64 j.1.aEd),.row 400057 1,.row 500057 1,.dat (.int .i64 j.1.aEl),.row 700057 1,.row 800057 1,.row 900057 1,.row 1000057 1])/\s.h 400044=(1,.row 126 24 (List.map M.aEJ.en C.1.aD.aEP) true)/\s.h 400057=(1,.row 126 24 (List.map M.aEJ.en ah.1) true)/\s.h 500044=(1,.row 67 11 (List.map M.bS.en C.1.aEq) true)/\s.h 500057=(1,.row 67 11 (List.map M.bS.en ah.2.1) true)/\s.h 700044=(1,.row 196 4 (List.map M.eV.en C.1.aEh.aEh) true)/\s.h 700057=(1,.row 196 4 (List.map M.eV.en ah.2.2.1) true)/\s.h 800044=(1,.row 199 3 (List.map M.gT.en C.1.aEY.aEv) true)/\s.h 800057=(1,.row 199 3 (List.map M.gT.en ah.2.2.2.1) true)/\s.h 900044=(1,.row 92 4 (List.map M.aET.en C.1.aEr) true)/\s.h 900057=(1,.row 92 4 (List.map M.aET.en ah.2.2.2.2.1) true)/\s.h 1000044=(1,.row 205 5 (List.map M.aEX.en C.1.aEi) true)/\s.h 1000057=(1,.row 205 5 (List.map M.aEX.en ah.2.2.2.2.2.1) true)/\True) ?_
 rintro dg f143
 refine ln ?_
 refine an (sq ?_)
 obtain⟨bh,bq,h⟩:=bind_some h
 refine ln1 (c16 _ _ _ bq) ?_
 refine an (sq (sq (ln ?_)))
 refine an ?_
 rcases dQ (decide (bh<0))with al | al
 ·replace h:=bR al h;refine lct (sq (ln ?_));refine an (rt ?_);cases h;simp[Ret,TB,EN, *]
 replace h:=bQ al h
 refine lcf (sk (an (sq (sq (ln ?_)))))
 refine an ?_
 rcases dQ (bh != ah.2.2.2.2.2.2)with ao | ao
 ·replace h:=bR ao h;refine lct (sq (ln ?_));refine an (rt ?_);cases h;simp[Ret,TB,EN, *]
 replace h:=bQ ao h
 refine lcf (sk (an (sq ?_)))
 obtain⟨dh,br,h⟩:=bind_some h
 obtain⟨di,bt,h⟩:=bind_some h
 obtain⟨bu,bw,h⟩:=bind_some h
 apply E3 mixed
 ·simp +decide only[LX,E,reduceIte,Nat.reduceAdd,Nat.reduceMul,qB,qC,L,TX,T9,Uk,EN,b1,b4,b7,av,aw,ax,ay,aj,ak,f143,al,ao]
  refine⟨_,c9 _ _ br,?_⟩
  try simp +decide only[LX,E,reduceIte,Nat.reduceAdd,Nat.reduceMul,qB,qC,L,TX,T9,Uk,EN,b1,b4,b7,av,aw,ax,ay,aj,ak,f143,al,ao]
  refine⟨_,c10.1 _ _ bt,?_⟩
  try simp +decide only[LX,E,reduceIte,Nat.reduceAdd,Nat.reduceMul,qB,qC,L,TX,T9,Uk,EN,b1,b4,b7,av,aw,ax,ay,aj,ak,f143,al,ao]
  refine⟨_,c11 _ _ _ _ _ _ bw,?_⟩
  try simp +decide only[LX,E,reduceIte,Nat.reduceAdd,Nat.reduceMul,qB,qC,L,TX,T9,Uk,EN,b1,b4,b7,av,aw,ax,ay,aj,ak,f143,al,ao]
  exact⟨.mk jH,Is.mk _⟩
 refine an (sq (sq ?_))
 obtain⟨bz,bj,h⟩:=bind_some h
 rcases dQ (!bz)with az | az
 ·replace h:=bR az h;refine ln1 (c12 _ _ _ bj) ?_;refine an (lct (sq (ln ?_)));refine an (rt ?_);cases h;simp[Ret,TB,EN, *]
 replace h:=bQ az h
 refine ln1 (c12 _ _ _ bj) ?_
 refine an ?_
 rcases dQ (!(bu.2==C.2))with ba | ba
 ·replace h:=bR ba h;refine lct (sq (ln ?_));refine an (rt ?_);cases h;simp[Ret,TB,EN, *]
 replace h:=bQ ba h
 refine lcf (sk (an (sq (ln ?_))))
 refine an (sq ?_)
 obtain⟨bl,c5,h⟩:=bind_some h
 refine ln1 (c16 _ _ _ c5) ?_
 refine an (sq (sq (ln ?_)))
 refine an ?_
 rcases dQ (decide (bl<0))with bd | bd
 ·replace h:=bR bd h;refine lct (sq (ln ?_));refine an (rt ?_);cases h;simp[Ret,TB,EN, *]
 replace h:=bQ bd h
 refine lcf (sk (an (sq (sq (ln ?_)))))
 refine an ?_
 rcases dQ (bl != ah.2.2.2.2.2.2)with bf | bf
 ·replace h:=bR bf h;refine lct (sq (ln ?_));refine an (rt ?_);cases h;simp[Ret,TB,EN, *]
 replace h:=bQ bf h
 refine lcf (sk (an (sq (ln ?_))))
 refine an (rt ?_)
 cases h
 simp[Ret,TB,EN, *]
