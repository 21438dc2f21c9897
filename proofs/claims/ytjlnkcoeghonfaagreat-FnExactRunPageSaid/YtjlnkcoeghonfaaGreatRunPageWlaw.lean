/-
  Helper text. No conditions.
-/
import Derived.Test.YtjlnkcoeghonfaaGreatRunPageWeq
import Derived.Test.YtjlnkcoeghonfaaGreatRunPageWheld
import Derived.Test.YtjlnkcoeghonfaaGreatRunPageWimpl4
import Derived.Test.YtjlnkcoeghonfaaGreatRunPageWmark2
import Derived.Test.YtjlnkcoeghonfaaGreatRunPageWspec4
import Derived.Test.YtjlnkcoeghonfaaGreatRunPageWsz
import Derived.Test.YtjlnkcoeghonfaaGreatRunPageWto
set_option linter.all false
namespace Go.Proofs.YtjlnkcoeghonfaaGreat.gen
open Go Go.Sh
set_option maxRecDepth 20000
set_option maxHeartbeats 4000000
theorem Ih(C:M.World)(U:Int)(r:Bool)(h:vE C U=some r):pH Tryz.prog 4 [(true,M.World.en C),(false,[.int .i64 U])] [(false,[.ro (.bool r)])]:=by
 unfold vE at h
 simp only[M.World.en]
 refine ZG (N:=74) (vars:=[.tmp 4]) Tryz.func4 rfl rfl rfl jH (Nat.le_of_ble_eq_true rfl) λbase wd => ?_
 refine sq (ln ?_)
 refine an (sq (ln ?_))
 refine an (sq ?_)
 obtain⟨x1,h2,h⟩:=bind_some h
 refine ln1 (c6 _ _ _ h2) ?_
 refine an (sq (sq (ln ?_)))
 refine an ?_
 rcases cM (decide (x1<0))with b3 | b3
 ·replace h:=bK b3 h;refine lct (sq (ln ?_));refine an (rt ?_);cases h;simp[Ret,TB,EN, *]
 replace h:=bJ b3 h
 refine lcf (sk (an (sq ?_)))
 obtain⟨x4,h5,h⟩:=bind_some h
 obtain⟨x6,h7,h⟩:=bind_some h
 refine ln2 (c8 _ _ h5) (c13 _ _ _ h7) ?_
 refine an (sq ?_)
 obtain⟨x8,h9,h⟩:=bind_some h
 refine ln1 (c8 _ _ h9) ?_
 refine an (sq ?_)
 obtain⟨j,ay,h⟩:=bind_some h
 refine ln1 (c14 _ _ _ ay) ?_
 refine an (sq (sq ?_))
 obtain⟨az,ba,h⟩:=bind_some h
 refine ln1 (c10 _ _ _ ba) ?_
 refine an ?_
 rcases cM (!az)with ah | ah
 ·replace h:=bK ah h;refine lct (sq (ln ?_));refine an (rt ?_);cases h;simp[Ret,TB,EN, *]
 replace h:=bJ ah h
 refine lcf (sk (an (sq (sq ?_))))
 obtain⟨bw,bd,h⟩:=bind_some h
 obtain⟨bf,bg,h⟩:=bind_some h
 refine ld2 mixed (c8 _ _ bd) (c10 _ _ _ bg) ?_
 refine an ?_
 rcases cM (!bf)with ai | ai
 ·replace h:=bK ai h;refine lct (sq (ln ?_));refine an (rt ?_);cases h;simp[Ret,TB,EN, *]
 replace h:=bJ ai h
 refine lcf (sk (an (sq (ln ?_))))
 refine an (sq ?_)
 obtain⟨J,bh,h⟩:=bind_some h
 refine WB (n:=2) (x:=36) (y:=37) (d:=38) (ag:=true) (cs:=[.dat (.int .i64 x8.Now),.dat (.bool x8.aKF),.dat (.int .i64 x8.aJy),.row 400023 1,.row 500023 1,.dat (.int .i64 x8.aJ4),.row 700023 1,.row 800023 1,.row 900023 1,.row 1000023 1]) (k:=1) [1,2,6,8,9] [2,6,8,400021,400026,500021,500026,700021,700026,800021,800026,900021,900026,1000021,1000026] rfl rfl rfl rfl rfl jG ?_ ?_ ?_ (HO x8 1 J bh) ?_ (by simp +decide [Dx]) ?_ ?_ ?_ ?_ (s1 := ?S87) (s3 := ?S88)
 rotate_left 2
 ·simp +decide only[LX,E,reduceIte,Nat.reduceAdd,Nat.reduceMul,Int.reduceEq,Int.reduceLT,qB,qC,L,TB,EN, *,-h];exact Is.mk _
 ·simp +decide only[LX,F,reduceIte,Nat.reduceAdd,qB,qC,EN, *,-h]
 ·simp +decide only[LX,F,reduceIte,Nat.reduceAdd,qB,qC,EN, *,-h]
 ·refine⟨_,_,rfl,rfl,rfl,?_⟩;refine⟨_,_,rfl,rfl,rfl,?_⟩;refine⟨_,_,rfl,rfl,rfl,?_⟩;refine⟨84,24,List.map M.aJi.en x8.aA.aJp,List.map M.aJi.en J.1,_,_,by simp +decide only[LX,F,reduceIte,Nat.reduceAdd,qB,qC,EN, *,-h],HY (f:=M.aJi.en) (λ_=>rfl) _,rfl,rfl,?_⟩;refine⟨91,11,List.map M.bD.en x8.aJ2,List.map M.bD.en J.2.1,_,_,by simp +decide only[LX,F,reduceIte,Nat.reduceAdd,qB,qC,EN, *,-h],HY (f:=M.bD.en) (λ_=>rfl) _,rfl,rfl,?_⟩;refine⟨_,_,rfl,rfl,rfl,?_⟩;refine⟨144,4,List.map M.eO.en x8.aJ3.aJ3,List.map M.eO.en J.2.2.1,_,_,by simp +decide only[LX,F,reduceIte,Nat.reduceAdd,qB,qC,EN, *,-h],HY (f:=M.eO.en) (λ_=>rfl) _,rfl,rfl,?_⟩;refine⟨147,3,List.map M.iU.en x8.aJu.aKM,List.map M.iU.en J.2.2.2.1,_,_,by simp +decide only[LX,F,reduceIte,Nat.reduceAdd,qB,qC,EN, *,-h],HY (f:=M.iU.en) (λ_=>rfl) _,rfl,rfl,?_⟩;refine⟨151,4,List.map M.aJr.en x8.aKE,List.map M.aJr.en J.2.2.2.2.1,_,_,by simp +decide only[LX,F,reduceIte,Nat.reduceAdd,qB,qC,EN, *,-h],HY (f:=M.aJr.en) (λ_=>rfl) _,rfl,rfl,?_⟩;refine⟨156,5,List.map M.aJv.en x8.aJ6,List.map M.aJv.en J.2.2.2.2.2.1,_,_,by simp +decide only[LX,F,reduceIte,Nat.reduceAdd,qB,qC,EN, *,-h],HY (f:=M.aJv.en) (λ_=>rfl) _,rfl,rfl,?_⟩;exact⟨rfl,rfl⟩
 ·simp +decide only[LC,LX,F,reduceIte,Nat.reduceAdd,qB,qC,EN, *,-h]
 ·simp +decide only[LC,LX,F,reduceIte,Nat.reduceAdd,qB,qC,EN, *,-h]
 ·simp +decide only[LX,E,reduceIte,Nat.reduceAdd,Nat.reduceMul,Int.reduceEq,Int.reduceLT,qB,qC,L,TB,EN, *,-h];exact Is.mk _
 refine an (sq (sq ?_))
 refine lcu (λs=>s.t 1 = .v false [.dat (.int .i64 U)]/\s.t 2 = .v false [.bp 2 1 0]/\s.t 6 = .v false [.bp 6 1 0]/\s.t 8 = .v false [.bp 8 1 0]/\s.t 9 = .v false [.dat (.int .i64 J.2.2.2.2.2.2)]/\s.h 2=(1,.box 35 [.dat (.int .i64 C.Now),.dat (.bool C.aKF),.dat (.int .i64 C.aJy),.old base (.sl (List.map M.aJi.en C.aA.aJp)) none,.old base (.sl (List.map M.bD.en C.aJ2)) none,.dat (.int .i64 C.aJ4),.old base (.sl (List.map M.eO.en C.aJ3.aJ3)) none,.old base (.sl (List.map M.iU.en C.aJu.aKM)) none,.old base (.sl (List.map M.aJr.en C.aKE)) none,.old base (.sl (List.map M.aJv.en C.aJ6)) none])/\s.h 6=(1,.box 50 [.dat (.int .i64 x6.Now),.dat (.bool x6.aKF),.dat (.int .i64 x6.aJy),.row 400021 1,.row 500021 1,.dat (.int .i64 x6.aJ4),.row 700021 1,.row 800021 1,.row 900021 1,.row 1000021 1])/\s.h 8=(1,.box 50 [.dat (.int .i64 j.Now),.dat (.bool j.aKF),.dat (.int .i64 j.aJy),.row 400026 1,.row 500026 1,.dat (.int .i64 j.aJ4),.row 700026 1,.row 800026 1,.row 900026 1,.row 1000026 1])/\s.h 400021=(1,.row 84 24 (List.map M.aJi.en x6.aA.aJp) true)/\s.h 400026=(1,.row 84 24 (List.map M.aJi.en j.aA.aJp) true)/\s.h 500021=(1,.row 91 11 (List.map M.bD.en x6.aJ2) true)/\s.h 500026=(1,.row 91 11 (List.map M.bD.en j.aJ2) true)/\s.h 700021=(1,.row 144 4 (List.map M.eO.en x6.aJ3.aJ3) true)/\s.h 700026=(1,.row 144 4 (List.map M.eO.en j.aJ3.aJ3) true)/\s.h 800021=(1,.row 147 3 (List.map M.iU.en x6.aJu.aKM) true)/\s.h 800026=(1,.row 147 3 (List.map M.iU.en j.aJu.aKM) true)/\s.h 900021=(1,.row 151 4 (List.map M.aJr.en x6.aKE) true)/\s.h 900026=(1,.row 151 4 (List.map M.aJr.en j.aKE) true)/\s.h 1000021=(1,.row 156 5 (List.map M.aJv.en x6.aJ6) true)/\s.h 1000026=(1,.row 156 5 (List.map M.aJv.en j.aJ6) true)/\True) ?_
 rintro bz f23
 rcases cM (decide (J.2.2.2.2.2.2<0))with aj | aj
 ·replace h:=bK aj h;refine ln ?_;refine an (lct (sq (ln ?_)));refine an (rt ?_);cases h;simp[Ret,TB,EN, *]
 replace h:=bJ aj h
 obtain⟨bj,bl,h⟩:=bind_some h
 refine ln1 (c10 _ _ _ bl) ?_
 refine an ?_
 rcases cM (!bj)with ak | ak
 ·replace h:=bK ak h;refine lct (sq (ln ?_));refine an (rt ?_);cases h;simp[Ret,TB,EN, *]
 replace h:=bJ ak h
 refine lcf (sk (an (sq (ln ?_))))
 refine an (sq ?_)
 obtain⟨I,bm,h⟩:=bind_some h
 refine WB (n:=2) (x:=47) (y:=48) (d:=49) (ag:=true) (cs:=[.dat (.int .i64 j.Now),.dat (.bool j.aKF),.dat (.int .i64 j.aJy),.row 400026 1,.row 500026 1,.dat (.int .i64 j.aJ4),.row 700026 1,.row 800026 1,.row 900026 1,.row 1000026 1]) (k:=1) [1,2,6,8,10] [2,6,8,400021,400026,500021,500026,700021,700026,800021,800026,900021,900026,1000021,1000026] rfl rfl rfl rfl rfl jG ?_ ?_ ?_ (HO j 1 I bm) ?_ (by simp +decide [Dx]) ?_ ?_ ?_ ?_ (s1 := ?S85) (s3 := ?S86)
 rotate_left 2
 ·simp +decide only[LX,E,reduceIte,Nat.reduceAdd,Nat.reduceMul,Int.reduceEq,Int.reduceLT,qB,qC,L,TB,EN, *,-h];exact Is.mk _
 ·simp +decide only[LX,F,reduceIte,Nat.reduceAdd,qB,qC,EN, *,-h]
 ·simp +decide only[LX,F,reduceIte,Nat.reduceAdd,qB,qC,EN, *,-h]
 ·refine⟨_,_,rfl,rfl,rfl,?_⟩;refine⟨_,_,rfl,rfl,rfl,?_⟩;refine⟨_,_,rfl,rfl,rfl,?_⟩;refine⟨84,24,List.map M.aJi.en j.aA.aJp,List.map M.aJi.en I.1,_,_,by simp +decide only[LX,F,reduceIte,Nat.reduceAdd,qB,qC,EN, *,-h],HY (f:=M.aJi.en) (λ_=>rfl) _,rfl,rfl,?_⟩;refine⟨91,11,List.map M.bD.en j.aJ2,List.map M.bD.en I.2.1,_,_,by simp +decide only[LX,F,reduceIte,Nat.reduceAdd,qB,qC,EN, *,-h],HY (f:=M.bD.en) (λ_=>rfl) _,rfl,rfl,?_⟩;refine⟨_,_,rfl,rfl,rfl,?_⟩;refine⟨144,4,List.map M.eO.en j.aJ3.aJ3,List.map M.eO.en I.2.2.1,_,_,by simp +decide only[LX,F,reduceIte,Nat.reduceAdd,qB,qC,EN, *,-h],HY (f:=M.eO.en) (λ_=>rfl) _,rfl,rfl,?_⟩;refine⟨147,3,List.map M.iU.en j.aJu.aKM,List.map M.iU.en I.2.2.2.1,_,_,by simp +decide only[LX,F,reduceIte,Nat.reduceAdd,qB,qC,EN, *,-h],HY (f:=M.iU.en) (λ_=>rfl) _,rfl,rfl,?_⟩;refine⟨151,4,List.map M.aJr.en j.aKE,List.map M.aJr.en I.2.2.2.2.1,_,_,by simp +decide only[LX,F,reduceIte,Nat.reduceAdd,qB,qC,EN, *,-h],HY (f:=M.aJr.en) (λ_=>rfl) _,rfl,rfl,?_⟩;refine⟨156,5,List.map M.aJv.en j.aJ6,List.map M.aJv.en I.2.2.2.2.2.1,_,_,by simp +decide only[LX,F,reduceIte,Nat.reduceAdd,qB,qC,EN, *,-h],HY (f:=M.aJv.en) (λ_=>rfl) _,rfl,rfl,?_⟩;exact⟨rfl,rfl⟩
 ·simp +decide only[LC,LX,F,reduceIte,Nat.reduceAdd,qB,qC,EN, *,-h]
 ·simp +decide only[LC,LX,F,reduceIte,Nat.reduceAdd,qB,qC,EN, *,-h]
 ·simp +decide only[LX,E,reduceIte,Nat.reduceAdd,Nat.reduceMul,Int.reduceEq,Int.reduceLT,qB,qC,L,TB,EN, *,-h];exact Is.mk _
 refine an (sq ?_)
 refine lcu (λs=>s.t 1 = .v false [.dat (.int .i64 U)]/\s.t 2 = .v false [.bp 2 1 0]/\s.t 6 = .v false [.bp 6 1 0]/\s.t 8 = .v false [.bp 8 1 0]/\s.t 10 = .v false [.dat (.int .i64 I.2.2.2.2.2.2)]/\s.h 2=(1,.box 35 [.dat (.int .i64 C.Now),.dat (.bool C.aKF),.dat (.int .i64 C.aJy),.old base (.sl (List.map M.aJi.en C.aA.aJp)) none,.old base (.sl (List.map M.bD.en C.aJ2)) none,.dat (.int .i64 C.aJ4),.old base (.sl (List.map M.eO.en C.aJ3.aJ3)) none,.old base (.sl (List.map M.iU.en C.aJu.aKM)) none,.old base (.sl (List.map M.aJr.en C.aKE)) none,.old base (.sl (List.map M.aJv.en C.aJ6)) none])/\s.h 6=(1,.box 50 [.dat (.int .i64 x6.Now),.dat (.bool x6.aKF),.dat (.int .i64 x6.aJy),.row 400021 1,.row 500021 1,.dat (.int .i64 x6.aJ4),.row 700021 1,.row 800021 1,.row 900021 1,.row 1000021 1])/\s.h 8=(1,.box 50 [.dat (.int .i64 j.Now),.dat (.bool j.aKF),.dat (.int .i64 j.aJy),.row 400026 1,.row 500026 1,.dat (.int .i64 j.aJ4),.row 700026 1,.row 800026 1,.row 900026 1,.row 1000026 1])/\s.h 400021=(1,.row 84 24 (List.map M.aJi.en x6.aA.aJp) true)/\s.h 400026=(1,.row 84 24 (List.map M.aJi.en I.1) true)/\s.h 500021=(1,.row 91 11 (List.map M.bD.en x6.aJ2) true)/\s.h 500026=(1,.row 91 11 (List.map M.bD.en I.2.1) true)/\s.h 700021=(1,.row 144 4 (List.map M.eO.en x6.aJ3.aJ3) true)/\s.h 700026=(1,.row 144 4 (List.map M.eO.en I.2.2.1) true)/\s.h 800021=(1,.row 147 3 (List.map M.iU.en x6.aJu.aKM) true)/\s.h 800026=(1,.row 147 3 (List.map M.iU.en I.2.2.2.1) true)/\s.h 900021=(1,.row 151 4 (List.map M.aJr.en x6.aKE) true)/\s.h 900026=(1,.row 151 4 (List.map M.aJr.en I.2.2.2.2.1) true)/\s.h 1000021=(1,.row 156 5 (List.map M.aJv.en x6.aJ6) true)/\s.h 1000026=(1,.row 156 5 (List.map M.aJv.en I.2.2.2.2.2.1) true)/\True) ?_
 rintro c5 f50
 refine ln ?_
 refine an (sq ?_)
 obtain⟨aw,bn,h⟩:=bind_some h
 refine ln1 (c12 _ _ _ bn) ?_
 refine an (sq (sq (ln ?_)))
 refine an ?_
 rcases cM (decide (aw<0))with al | al
 ·replace h:=bK al h;refine lct (sq (ln ?_));refine an (rt ?_);cases h;simp[Ret,TB,EN, *]
 replace h:=bJ al h
 refine lcf (sk (an (sq (sq (ln ?_)))))
 refine an ?_
 rcases cM (aw != I.2.2.2.2.2.2)with ao | ao
 ·replace h:=bK ao h;refine lct (sq (ln ?_));refine an (rt ?_);cases h;simp[Ret,TB,EN, *]
 replace h:=bJ ao h
 refine lcf (sk (an (sq ?_)))
 obtain⟨ca,bo,h⟩:=bind_some h
 obtain⟨cc,bq,h⟩:=bind_some h
 refine ln2 (c8 _ _ bo) (c14 _ _ _ bq) ?_
 refine an (sq (sq ?_))
 obtain⟨br,bt,h⟩:=bind_some h
 refine ln1 (c10 _ _ _ bt) ?_
 refine an ?_
 rcases cM (!br)with aq | aq
 ·replace h:=bK aq h;refine lct (sq (ln ?_));refine an (rt ?_);cases h;simp[Ret,TB,EN, *]
 replace h:=bJ aq h
 refine lcf (sk (an (sq (ln ?_))))
 refine an (sq ?_)
 obtain⟨ax,bu,h⟩:=bind_some h
 refine ln1 (c12 _ _ _ bu) ?_
 refine an (sq (sq (ln ?_)))
 refine an ?_
 rcases cM (decide (ax<0))with ar | ar
 ·replace h:=bK ar h;refine lct (sq (ln ?_));refine an (rt ?_);cases h;simp[Ret,TB,EN, *]
 replace h:=bJ ar h
 refine lcf (sk (an (sq (sq (ln ?_)))))
 refine an ?_
 rcases cM (ax != I.2.2.2.2.2.2)with av | av
 ·replace h:=bK av h;refine lct (sq (ln ?_));refine an (rt ?_);cases h;simp[Ret,TB,EN, *]
 replace h:=bJ av h
 refine lcf (sk (an (sq (ln ?_))))
 refine an (rt ?_)
 cases h
 simp[Ret,TB,EN, *]
