/-
  Helper text. No conditions.
-/
import Derived.Test.YtjlnkcoeghonfaaGreatStepPageWeq
import Derived.Test.YtjlnkcoeghonfaaGreatStepPageWheld
import Derived.Test.YtjlnkcoeghonfaaGreatStepPageWimpl5
import Derived.Test.YtjlnkcoeghonfaaGreatStepPageWmark2
import Derived.Test.YtjlnkcoeghonfaaGreatStepPageWspec5
import Derived.Test.YtjlnkcoeghonfaaGreatStepPageWsz
import Derived.Test.YtjlnkcoeghonfaaGreatStepPageWto
set_option linter.all false
namespace Go.Proofs.YtjlnkcoeghonfaaGreat.gen
open Go Go.Sh
set_option maxRecDepth 20000
set_option maxHeartbeats 4000000
theorem HY(C:M.World)(U:Int)(r:Bool)(h:sZ C U=some r):pC Tryz.prog 3 [(true,M.World.en C),(false,[.int .i64 U])] [(false,[.ro (.bool r)])]:=by
 unfold sZ at h
 simp only[M.World.en]
 refine Zy (N:=101) (vars:=[.tmp 4]) Tryz.func3 rfl rfl rfl jH (Nat.le_of_ble_eq_true rfl) λbase wd => ?_
 refine sq (ln ?_)
 refine an (sq (ln ?_))
 refine an (sq ?_)
 obtain⟨x1,h2,h⟩:=bind_some h
 refine ln1 (c6 _ _ _ h2) ?_
 refine an (sq (sq (ln ?_)))
 refine an ?_
 rcases cK (decide (x1<0))with b3 | b3
 ·replace h:=bJ b3 h;refine lct (sq (ln ?_));refine an (rt ?_);cases h;simp[Ret,TB,EN, *]
 replace h:=bI b3 h
 refine lcf (sk (an (sq ?_)))
 obtain⟨x4,h5,h⟩:=bind_some h
 obtain⟨x6,h7,h⟩:=bind_some h
 refine ln2 (c8 _ _ h5) (c7 _ _ _ h7) ?_
 refine an (sq ?_)
 obtain⟨x8,h9,h⟩:=bind_some h
 refine ln1 (c8 _ _ h9) ?_
 refine an (sq ?_)
 obtain⟨j,bg,h⟩:=bind_some h
 refine ln1 (c9 _ _ _ bg) ?_
 refine an (sq (sq ?_))
 obtain⟨bh,ay,h⟩:=bind_some h
 rcases cK (!bh)with ah | ah
 ·replace h:=bJ ah h;refine ln1 (c10 _ _ _ ay) ?_;refine an (lct (sq (ln ?_)));refine an (rt ?_);cases h;simp[Ret,TB,EN, *]
 replace h:=bI ah h
 refine ln1 (c10 _ _ _ ay) ?_
 refine an ?_
 rcases cK (j.2 != x6.2)with ai | ai
 ·replace h:=bJ ai h;refine lct (sq (ln ?_));refine an (rt ?_);cases h;simp[Ret,TB,EN, *]
 replace h:=bI ai h
 refine lcf (sk (an (sq (sq ?_))))
 obtain⟨ca,bj,h⟩:=bind_some h
 obtain⟨bl,bm,h⟩:=bind_some h
 refine ld2 mixed (c8 _ _ bj) (c10 _ _ _ bm) ?_
 refine an ?_
 rcases cK (!bl)with aj | aj
 ·replace h:=bJ aj h;refine lct (sq (ln ?_));refine an (rt ?_);cases h;simp[Ret,TB,EN, *]
 replace h:=bI aj h
 refine lcf (sk (an (sq (ln ?_))))
 refine an (sq ?_)
 obtain⟨J,bn,h⟩:=bind_some h
 refine Wv (n:=2) (x:=50) (y:=51) (d:=52) (ag:=true) (cs:=[.dat (.int .i64 x8.Now),.dat (.bool x8.aKB),.dat (.int .i64 x8.aJq),.row 400029 1,.row 500029 1,.dat (.int .i64 x8.aJy),.row 700029 1,.row 800029 1,.row 900029 1,.row 1000029 1]) (k:=1) [1,2,6,7,9,10,11] [2,6,9,400025,400033,500025,500033,700025,700033,800025,800033,900025,900033,1000025,1000033] rfl rfl rfl rfl rfl jG ?_ ?_ ?_ (HH x8 1 J bn) ?_ (by simp +decide [Dr]) ?_ ?_ ?_ ?_ (s1 := ?S92) (s3 := ?S93)
 rotate_left 2
 ·simp +decide only[LX,E,reduceIte,Nat.reduceAdd,Nat.reduceMul,Int.reduceEq,Int.reduceLT,qB,qC,L,TB,EN, *,-h];exact Is.mk _
 ·simp +decide only[LX,F,reduceIte,Nat.reduceAdd,qB,qC,EN, *,-h]
 ·simp +decide only[LX,F,reduceIte,Nat.reduceAdd,qB,qC,EN, *,-h]
 ·refine⟨_,_,rfl,rfl,rfl,?_⟩;refine⟨_,_,rfl,rfl,rfl,?_⟩;refine⟨_,_,rfl,rfl,rfl,?_⟩;refine⟨84,24,List.map M.aJa.en x8.aC.aJh,List.map M.aJa.en J.1,_,_,by simp +decide only[LX,F,reduceIte,Nat.reduceAdd,qB,qC,EN, *,-h],HS (f:=M.aJa.en) (λ_=>rfl) _,rfl,rfl,?_⟩;refine⟨91,11,List.map M.bD.en x8.aJu,List.map M.bD.en J.2.1,_,_,by simp +decide only[LX,F,reduceIte,Nat.reduceAdd,qB,qC,EN, *,-h],HS (f:=M.bD.en) (λ_=>rfl) _,rfl,rfl,?_⟩;refine⟨_,_,rfl,rfl,rfl,?_⟩;refine⟨144,4,List.map M.fE.en x8.aJv.aJv,List.map M.fE.en J.2.2.1,_,_,by simp +decide only[LX,F,reduceIte,Nat.reduceAdd,qB,qC,EN, *,-h],HS (f:=M.fE.en) (λ_=>rfl) _,rfl,rfl,?_⟩;refine⟨147,3,List.map M.kK.en x8.aJp.aKI,List.map M.kK.en J.2.2.2.1,_,_,by simp +decide only[LX,F,reduceIte,Nat.reduceAdd,qB,qC,EN, *,-h],HS (f:=M.kK.en) (λ_=>rfl) _,rfl,rfl,?_⟩;refine⟨151,4,List.map M.aJj.en x8.aJ6,List.map M.aJj.en J.2.2.2.2.1,_,_,by simp +decide only[LX,F,reduceIte,Nat.reduceAdd,qB,qC,EN, *,-h],HS (f:=M.aJj.en) (λ_=>rfl) _,rfl,rfl,?_⟩;refine⟨156,5,List.map M.aJn.en x8.aJ0,List.map M.aJn.en J.2.2.2.2.2.1,_,_,by simp +decide only[LX,F,reduceIte,Nat.reduceAdd,qB,qC,EN, *,-h],HS (f:=M.aJn.en) (λ_=>rfl) _,rfl,rfl,?_⟩;exact⟨rfl,rfl⟩
 ·simp +decide only[LC,LX,F,reduceIte,Nat.reduceAdd,qB,qC,EN, *,-h]
 ·simp +decide only[LC,LX,F,reduceIte,Nat.reduceAdd,qB,qC,EN, *,-h]
 ·simp +decide only[LX,E,reduceIte,Nat.reduceAdd,Nat.reduceMul,Int.reduceEq,Int.reduceLT,qB,qC,L,TB,EN, *,-h];exact Is.mk _
 refine an (sq (sq ?_))
 refine lcu (λs=>s.t 1 = .v false [.dat (.int .i64 U)]/\s.t 2 = .v false [.bp 2 1 0]/\s.t 6 = .v false [.bp 6 1 0]/\s.t 7 = .v false [.dat (.int .i64 x6.2)]/\s.t 9 = .v false [.bp 9 1 0]/\s.t 10 = .v false [.dat (.int .i64 j.2)]/\s.t 11 = .v false [.dat (.int .i64 J.2.2.2.2.2.2)]/\s.h 2=(1,.box 35 [.dat (.int .i64 C.Now),.dat (.bool C.aKB),.dat (.int .i64 C.aJq),.old base (.sl (List.map M.aJa.en C.aC.aJh)) none,.old base (.sl (List.map M.bD.en C.aJu)) none,.dat (.int .i64 C.aJy),.old base (.sl (List.map M.fE.en C.aJv.aJv)) none,.old base (.sl (List.map M.kK.en C.aJp.aKI)) none,.old base (.sl (List.map M.aJj.en C.aJ6)) none,.old base (.sl (List.map M.aJn.en C.aJ0)) none])/\s.h 6=(1,.box 50 [.dat (.int .i64 x6.1.Now),.dat (.bool x6.1.aKB),.dat (.int .i64 x6.1.aJq),.row 400025 1,.row 500025 1,.dat (.int .i64 x6.1.aJy),.row 700025 1,.row 800025 1,.row 900025 1,.row 1000025 1])/\s.h 9=(1,.box 50 [.dat (.int .i64 j.1.Now),.dat (.bool j.1.aKB),.dat (.int .i64 j.1.aJq),.row 400033 1,.row 500033 1,.dat (.int .i64 j.1.aJy),.row 700033 1,.row 800033 1,.row 900033 1,.row 1000033 1])/\s.h 400025=(1,.row 84 24 (List.map M.aJa.en x6.1.aC.aJh) true)/\s.h 400033=(1,.row 84 24 (List.map M.aJa.en j.1.aC.aJh) true)/\s.h 500025=(1,.row 91 11 (List.map M.bD.en x6.1.aJu) true)/\s.h 500033=(1,.row 91 11 (List.map M.bD.en j.1.aJu) true)/\s.h 700025=(1,.row 144 4 (List.map M.fE.en x6.1.aJv.aJv) true)/\s.h 700033=(1,.row 144 4 (List.map M.fE.en j.1.aJv.aJv) true)/\s.h 800025=(1,.row 147 3 (List.map M.kK.en x6.1.aJp.aKI) true)/\s.h 800033=(1,.row 147 3 (List.map M.kK.en j.1.aJp.aKI) true)/\s.h 900025=(1,.row 151 4 (List.map M.aJj.en x6.1.aJ6) true)/\s.h 900033=(1,.row 151 4 (List.map M.aJj.en j.1.aJ6) true)/\s.h 1000025=(1,.row 156 5 (List.map M.aJn.en x6.1.aJ0) true)/\s.h 1000033=(1,.row 156 5 (List.map M.aJn.en j.1.aJ0) true)/\True) ?_
 rintro cc f24
 rcases cK (decide (J.2.2.2.2.2.2<0))with ak | ak
 ·replace h:=bJ ak h;refine ln ?_;refine an (lct (sq (ln ?_)));refine an (rt ?_);cases h;simp[Ret,TB,EN, *]
 replace h:=bI ak h
 obtain⟨bo,az,h⟩:=bind_some h
 rcases cK (!bo)with al | al
 ·replace h:=bJ al h;refine ln1 (c10 _ _ _ az) ?_;refine an (lct (sq (ln ?_)));refine an (rt ?_);cases h;simp[Ret,TB,EN, *]
 replace h:=bI al h
 refine ln1 (c10 _ _ _ az) ?_
 refine an (lcf (sk (an (sq (ln ?_)))))
 refine an (sq ?_)
 obtain⟨I,bq,h⟩:=bind_some h
 refine Wv (n:=2) (x:=66) (y:=67) (d:=68) (ag:=true) (cs:=[.dat (.int .i64 j.1.Now),.dat (.bool j.1.aKB),.dat (.int .i64 j.1.aJq),.row 400033 1,.row 500033 1,.dat (.int .i64 j.1.aJy),.row 700033 1,.row 800033 1,.row 900033 1,.row 1000033 1]) (k:=1) [1,2,6,7,9,12] [2,6,9,400025,400033,500025,500033,700025,700033,800025,800033,900025,900033,1000025,1000033] rfl rfl rfl rfl rfl jG ?_ ?_ ?_ (HH j.1 1 I bq) ?_ (by simp +decide [Dr]) ?_ ?_ ?_ ?_ (s1 := ?S90) (s3 := ?S91)
 rotate_left 2
 ·simp +decide only[LX,E,reduceIte,Nat.reduceAdd,Nat.reduceMul,Int.reduceEq,Int.reduceLT,qB,qC,L,TB,EN, *,-h];exact Is.mk _
 ·simp +decide only[LX,F,reduceIte,Nat.reduceAdd,qB,qC,EN, *,-h]
 ·simp +decide only[LX,F,reduceIte,Nat.reduceAdd,qB,qC,EN, *,-h]
 ·refine⟨_,_,rfl,rfl,rfl,?_⟩;refine⟨_,_,rfl,rfl,rfl,?_⟩;refine⟨_,_,rfl,rfl,rfl,?_⟩;refine⟨84,24,List.map M.aJa.en j.1.aC.aJh,List.map M.aJa.en I.1,_,_,by simp +decide only[LX,F,reduceIte,Nat.reduceAdd,qB,qC,EN, *,-h],HS (f:=M.aJa.en) (λ_=>rfl) _,rfl,rfl,?_⟩;refine⟨91,11,List.map M.bD.en j.1.aJu,List.map M.bD.en I.2.1,_,_,by simp +decide only[LX,F,reduceIte,Nat.reduceAdd,qB,qC,EN, *,-h],HS (f:=M.bD.en) (λ_=>rfl) _,rfl,rfl,?_⟩;refine⟨_,_,rfl,rfl,rfl,?_⟩;refine⟨144,4,List.map M.fE.en j.1.aJv.aJv,List.map M.fE.en I.2.2.1,_,_,by simp +decide only[LX,F,reduceIte,Nat.reduceAdd,qB,qC,EN, *,-h],HS (f:=M.fE.en) (λ_=>rfl) _,rfl,rfl,?_⟩;refine⟨147,3,List.map M.kK.en j.1.aJp.aKI,List.map M.kK.en I.2.2.2.1,_,_,by simp +decide only[LX,F,reduceIte,Nat.reduceAdd,qB,qC,EN, *,-h],HS (f:=M.kK.en) (λ_=>rfl) _,rfl,rfl,?_⟩;refine⟨151,4,List.map M.aJj.en j.1.aJ6,List.map M.aJj.en I.2.2.2.2.1,_,_,by simp +decide only[LX,F,reduceIte,Nat.reduceAdd,qB,qC,EN, *,-h],HS (f:=M.aJj.en) (λ_=>rfl) _,rfl,rfl,?_⟩;refine⟨156,5,List.map M.aJn.en j.1.aJ0,List.map M.aJn.en I.2.2.2.2.2.1,_,_,by simp +decide only[LX,F,reduceIte,Nat.reduceAdd,qB,qC,EN, *,-h],HS (f:=M.aJn.en) (λ_=>rfl) _,rfl,rfl,?_⟩;exact⟨rfl,rfl⟩
 ·simp +decide only[LC,LX,F,reduceIte,Nat.reduceAdd,qB,qC,EN, *,-h]
 ·simp +decide only[LC,LX,F,reduceIte,Nat.reduceAdd,qB,qC,EN, *,-h]
 ·simp +decide only[LX,E,reduceIte,Nat.reduceAdd,Nat.reduceMul,Int.reduceEq,Int.reduceLT,qB,qC,L,TB,EN, *,-h];exact Is.mk _
 refine an (sq ?_)
 refine lcu (λs=>s.t 1 = .v false [.dat (.int .i64 U)]/\s.t 2 = .v false [.bp 2 1 0]/\s.t 6 = .v false [.bp 6 1 0]/\s.t 7 = .v false [.dat (.int .i64 x6.2)]/\s.t 9 = .v false [.bp 9 1 0]/\s.t 12 = .v false [.dat (.int .i64 I.2.2.2.2.2.2)]/\s.h 2=(1,.box 35 [.dat (.int .i64 C.Now),.dat (.bool C.aKB),.dat (.int .i64 C.aJq),.old base (.sl (List.map M.aJa.en C.aC.aJh)) none,.old base (.sl (List.map M.bD.en C.aJu)) none,.dat (.int .i64 C.aJy),.old base (.sl (List.map M.fE.en C.aJv.aJv)) none,.old base (.sl (List.map M.kK.en C.aJp.aKI)) none,.old base (.sl (List.map M.aJj.en C.aJ6)) none,.old base (.sl (List.map M.aJn.en C.aJ0)) none])/\s.h 6=(1,.box 50 [.dat (.int .i64 x6.1.Now),.dat (.bool x6.1.aKB),.dat (.int .i64 x6.1.aJq),.row 400025 1,.row 500025 1,.dat (.int .i64 x6.1.aJy),.row 700025 1,.row 800025 1,.row 900025 1,.row 1000025 1])/\s.h 9=(1,.box 50 [.dat (.int .i64 j.1.Now),.dat (.bool j.1.aKB),.dat (.int .i64 j.1.aJq),.row 400033 1,.row 500033 1,.dat (.int .i64 j.1.aJy),.row 700033 1,.row 800033 1,.row 900033 1,.row 1000033 1])/\s.h 400025=(1,.row 84 24 (List.map M.aJa.en x6.1.aC.aJh) true)/\s.h 400033=(1,.row 84 24 (List.map M.aJa.en I.1) true)/\s.h 500025=(1,.row 91 11 (List.map M.bD.en x6.1.aJu) true)/\s.h 500033=(1,.row 91 11 (List.map M.bD.en I.2.1) true)/\s.h 700025=(1,.row 144 4 (List.map M.fE.en x6.1.aJv.aJv) true)/\s.h 700033=(1,.row 144 4 (List.map M.fE.en I.2.2.1) true)/\s.h 800025=(1,.row 147 3 (List.map M.kK.en x6.1.aJp.aKI) true)/\s.h 800033=(1,.row 147 3 (List.map M.kK.en I.2.2.2.1) true)/\s.h 900025=(1,.row 151 4 (List.map M.aJj.en x6.1.aJ6) true)/\s.h 900033=(1,.row 151 4 (List.map M.aJj.en I.2.2.2.2.1) true)/\s.h 1000025=(1,.row 156 5 (List.map M.aJn.en x6.1.aJ0) true)/\s.h 1000033=(1,.row 156 5 (List.map M.aJn.en I.2.2.2.2.2.1) true)/\True) ?_
 rintro cd f53
 refine ln ?_
 refine an (sq ?_)
 obtain⟨ba,br,h⟩:=bind_some h
 refine ln1 (c12 _ _ _ br) ?_
 refine an (sq (sq (ln ?_)))
 refine an ?_
 rcases cK (decide (ba<0))with ao | ao
 ·replace h:=bJ ao h;refine lct (sq (ln ?_));refine an (rt ?_);cases h;simp[Ret,TB,EN, *]
 replace h:=bI ao h
 refine lcf (sk (an (sq (sq (ln ?_)))))
 refine an ?_
 rcases cK (ba != I.2.2.2.2.2.2)with aq | aq
 ·replace h:=bJ aq h;refine lct (sq (ln ?_));refine an (rt ?_);cases h;simp[Ret,TB,EN, *]
 replace h:=bI aq h
 refine lcf (sk (an (sq ?_)))
 obtain⟨cg,bt,h⟩:=bind_some h
 obtain⟨bu,bw,h⟩:=bind_some h
 refine ln2 (c8 _ _ bt) (c9 _ _ _ bw) ?_
 refine an (sq (sq ?_))
 obtain⟨bz,bd,h⟩:=bind_some h
 rcases cK (!bz)with ar | ar
 ·replace h:=bJ ar h;refine ln1 (c10 _ _ _ bd) ?_;refine an (lct (sq (ln ?_)));refine an (rt ?_);cases h;simp[Ret,TB,EN, *]
 replace h:=bI ar h
 refine ln1 (c10 _ _ _ bd) ?_
 refine an ?_
 rcases cK (bu.2 != x6.2)with av | av
 ·replace h:=bJ av h;refine lct (sq (ln ?_));refine an (rt ?_);cases h;simp[Ret,TB,EN, *]
 replace h:=bI av h
 refine lcf (sk (an (sq (ln ?_))))
 refine an (sq ?_)
 obtain⟨bf,c5,h⟩:=bind_some h
 refine ln1 (c12 _ _ _ c5) ?_
 refine an (sq (sq (ln ?_)))
 refine an ?_
 rcases cK (decide (bf<0))with aw | aw
 ·replace h:=bJ aw h;refine lct (sq (ln ?_));refine an (rt ?_);cases h;simp[Ret,TB,EN, *]
 replace h:=bI aw h
 refine lcf (sk (an (sq (sq (ln ?_)))))
 refine an ?_
 rcases cK (bf != I.2.2.2.2.2.2)with ax | ax
 ·replace h:=bJ ax h;refine lct (sq (ln ?_));refine an (rt ?_);cases h;simp[Ret,TB,EN, *]
 replace h:=bI ax h
 refine lcf (sk (an (sq (ln ?_))))
 refine an (rt ?_)
 cases h
 simp[Ret,TB,EN, *]
