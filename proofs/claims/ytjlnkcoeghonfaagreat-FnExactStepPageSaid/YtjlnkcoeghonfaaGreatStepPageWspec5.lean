/-
  Helper text. No conditions.
-/
import Derived.Test.YtjlnkcoeghonfaaGreatStepPageWspec4
set_option linter.all false
namespace Go.Proofs.YtjlnkcoeghonfaaGreat.gen
open Go Go.Sh
set_option maxRecDepth 20000
set_option maxHeartbeats 4000000
instance Yz:aZ 207 (∀p0 r (h:oZ p0=some r),Sc 207 [aX (M.aJa.en p0)] [rB r]):=⟨λp0 r h=>by unfold oZ at h;exact sgo 50 [.tmp 2] Tryz.func207⟩
instance:aZ 94 (∀p0 r (h:cQ p0=some r),Sc 94 [aX (M.aC.en p0)] [rB r]):=⟨λp0 r h=>by
 have i1:=inv λm s=>∃v3:Int,(s.t 1=vP 1 1 0/\s.t 3=vI v3/\s.h 1=(1,oX 39 (M.aC.en p0)))/\gA p0 m v3=some r
 have e1:=@gA.eq_2
 unfold cQ at h
 exact sgo 48 [.tmp 2] Tryz.func94⟩
instance:aZ 19 (∀p0 r (h:AE p0=some r),Sc 19 [aX (M.World.en p0)] [rB r]):=⟨λp0 r h=>by
 have i1:=inv λm s=>∃v3:Int,(s.t 1=vP 1 1 0/\s.t 3=vI v3/\s.h 1=(1,oX 50 (M.World.en p0)))/\lQ p0 m v3=some r
 have e1:=@lQ.eq_2
 have i2:=inv λm s=>∃v4:Int,(s.t 1=vP 1 1 0/\s.t 4=vI v4/\s.h 1=(1,oX 50 (M.World.en p0)))/\dY p0 m v4=some r
 have e2:=@dY.eq_2
 unfold AE at h
 exact sgo 126 [.tmp 2] Tryz.func19⟩
instance:aZ 32 (∀p0 p1 p2 r (h:tV p0 p1 p2=some r),Sc 32 [aX (M.World.en p0),aX (M.bD.en p1),aS p2] [(true,M.aJg.rs r)]):=⟨λp0 p1 p2 r h=>by unfold tV at h;exact sgo 44 [.cell 6 107] Tryz.func32⟩
instance:aZ 234 (∀p0 p1 r (h:zI p0 p1=some r),Sc 234 [aX (M.aJb.en p0),aL M.Op.en p1] [(true,M.aJb.rs r.1),rW 3 1 enI r.2.1,rB r.2.2]):=⟨λp0 p1 r h=>by
 have i1:=Ni [.b 7 2 7050000 75 3,.b 7 3 7050001 382 2] λm s=>∃v9:Int,∃ai:ByteArray,∃aj:Int,∃ak:List Int,∃aa:List M.aD,∃ae:List M.aG,∃al:Nat,∃af:Nat,∃ah:Nat,(s.t 1=vL M.Op.en p1/\s.t 2=vP 2 1 0/\s.t 4=vP 4 1 0/\s.t 7=vP 7 1 0/\s.t 8=vR 100015 al/\s.t 9=vI v9/\s.h 2=(1,oX 70 (M.aJb.en p0))/\s.h 4=(1,W8)/\s.h 7=(1,oB 70 [cS ai,cI aj,.row 7050000 af,.row 7050001 ah])/\s.h 100015=(al,oW 3 1 enI ak)/\s.h 7050000=(af,oW 75 3 M.aD.en aa)/\s.h 7050001=(ah,oW 382 2 M.aG.en ae))/\tQ p0 p1 m v9 ai aj ak aa ae=some r
 have e1:=@tQ.eq_2
 unfold zI at h
 exact sgo 54 [.cell 4 70,.tmp 5,.tmp 6] Tryz.func234⟩
instance:aZ 228 (∀p0 r (h:xJ p0=some r),Sc 228 [aX (M.bL.en p0)] [(true,M.aJb.rs r.1),rI r.2]):=⟨λp0 r h=>by
 have i1:=λ(x3:((List (List Int))×Int))=>Ni [.b 4 2 7050000 75 3,.b 4 3 7050001 382 2] λm s=>∃v7:Int,∃ai:ByteArray,∃aj:Int,∃aa:List M.aD,∃ae:List M.aG,∃af:Nat,∃ah:Nat,(s.t 2=vP 2 1 0/\s.t 4=vP 4 1 0/\s.t 5=vR 100019 1/\s.t 7=vI v7/\s.h 2=(1,W8)/\s.h 4=(1,oB 70 [cS ai,cI aj,.row 7050000 af,.row 7050001 ah])/\s.h 100019=(1,oW 58 1 (enL enB) x3.1)/\s.h 7050000=(af,oW 75 3 M.aD.en aa)/\s.h 7050001=(ah,oW 382 2 M.aG.en ae))/\pO x3 m v7 ai aj aa ae=some r
 have e1:=@pO.eq_2
 unfold xJ at h
 exact sgo 51 [.cell 2 70,.tmp 3] Tryz.func228⟩
instance:aZ 117 (∀p0 p1 r (h:uJ p0 p1=some r),Sc 117 [aX (M.aJa.en p0),aI p1] [(true,M.aA.rs r.1),rB r.2]):=⟨λp0 p1 r h=>by unfold uJ at h;exact sgo 43 [.cell 4 207,.tmp 5] Tryz.func117⟩
instance:aZ 35 (∀p0 p1 p2 p3 r (h:xE p0 p1 p2 p3=some r),Sc 35 [aX (M.World.en p0),aX (M.bD.en p1),aI p2,aS p3] [rI r]):=⟨λp0 p1 p2 p3 r h=>by unfold xE at h;exact sgo 44 [.tmp 8] Tryz.func35⟩
instance:aZ 121 (∀p0 p1 r (h:wP p0 p1=some r),Sc 121 [aX (M.bL.en p0),aL M.Op.en p1] [(true,M.bL.rs r.1),rB r.2]):=⟨λp0 p1 r h=>by unfold wP at h;exact sgo 64 [.cell 4 72,.tmp 5] Tryz.func121⟩
theorem aAp(j C:M.aJa)(r:(M.aJa×Bool))(h:nH j C=some r)(h2:r.2=false):pC Tryz.prog 237 [(true,M.aJa.en j),(true,M.aJa.en C)] [(true,[.ro (.str r.1.aJj),.ro (.str r.1.Top),.ro (.str r.1.aJc.aJj),.ro (.int .i64 r.1.aJc.aJ9),.ro (.int .i64 r.1.aJc.aKE),.ro (.int .i64 r.1.aJc.aKL),.own 277 2 (List.map M.aJs.en r.1.aJk.aJk),.ro (.str r.1.bL.aJz.Name),.ro (.int .i64 r.1.bL.aJz.aJd),.own 75 3 (List.map M.aD.en r.1.bL.aJz.aJm),.own 382 2 (List.map M.aG.en r.1.bL.aJz.aJw),.own 5 1 (List.map enB r.1.bL.Log),.ro (.int .i64 r.1.bL.aKJ),.ro (.str r.1.aE.aJz.Name),.own 320 4 (List.map M.aJl.en r.1.aE.aJz.aJe),.ro (.int .i64 r.1.aE.aJz.aJ7),.ro (.int .i64 r.1.aE.aKV),.ro (.int .i64 r.1.aE.aJx.aM.aJq),.ro (.int .i64 r.1.aE.aJx.aM.aKM),.own 269 7 (List.map M.aW.en r.1.aE.aJx.aM.aJ1),.ro (.int .i64 r.1.aE.aJx.aKP),.ro (.int .i64 r.1.aE.aJx.aKC),.ro (.int .i64 r.1.aJ4),.ro (.bool r.1.aJ3)]),(false,[.ro (.bool r.2)])]:=by
 unfold nH at h
 simp only[M.aJa.en]
 refine PL (N:=17) (vars:=[.cell 4 84,.tmp 5]) Tryz.func237 rfl rfl rfl jH (Nat.le_of_ble_eq_true rfl) λbase wd=> ?_
 refine sq ?_
 apply iR
 ·simp+decide only[E,reduceIte,Nat.reduceAdd,Nat.reduceMul,qB,qC,L,L8,EN];exact Is.mk _
 refine an (sq (sq ?_))
 obtain⟨x1,h2,h⟩:=bind_some h
 rcases cK (!x1)with b3|b3
 ·replace h:=bJ b3 h
  apply iR
  ·simp+decide only[E,reduceIte,Nat.reduceAdd,Nat.reduceMul,qB,qC,L,L8,EN,b3]
   refine⟨_,Yz.1 _ _ h2,?_⟩
   try simp+decide only[E,reduceIte,Nat.reduceAdd,Nat.reduceMul,qB,qC,L,L8,EN,b3]
   exact Is.mk _
  refine an ?_
  refine Ft (by simp+decide only[F,reduceIte,Nat.reduceAdd,qB,qC,b3]) ?_
  refine sq ?_
  obtain⟨x4,h5,h⟩:=bind_some h
  apply iR
  ·simp+decide only[E,reduceIte,Nat.reduceAdd,Nat.reduceMul,qB,qC,L,L8,EN,b3]
   refine⟨_,YA.1 _ _ h5,?_⟩
   try simp+decide only[E,reduceIte,Nat.reduceAdd,Nat.reduceMul,qB,qC,L,L8,EN,b3]
   exact Is.mk _
  refine an (rt ?_)
  cases h
  simp[Ret,EN,L8,M.aJs.en,M.aG.en,M.aJl.en,M.aD.en,M.aW.en,enB,b3]
 replace h:=bI b3 h
 obtain⟨x6,h7,h⟩:=bind_some h
 apply iR
 ·simp+decide only[E,reduceIte,Nat.reduceAdd,Nat.reduceMul,qB,qC,L,L8,EN,b3]
  refine⟨_,Yz.1 _ _ h2,?_⟩
  try simp+decide only[E,reduceIte,Nat.reduceAdd,Nat.reduceMul,qB,qC,L,L8,EN,b3]
  refine⟨_,Yz.1 _ _ h7,?_⟩
  try simp+decide only[E,reduceIte,Nat.reduceAdd,Nat.reduceMul,qB,qC,L,L8,EN,b3]
  exact Is.mk _
 refine an ?_
 rcases GB (!x6)with b8|b8
 ·replace h:=bI b8 h;refine F6 (by simp+decide only[F,reduceIte,Nat.reduceAdd,qB,qC,b3,b8]) ?_;refine sk (an (sq ?_));apply iR;(simp+decide only[E,reduceIte,Nat.reduceAdd,Nat.reduceMul,qB,qC,L,L8,EN,b3,b8];exact Is.mk _);refine an (rt ?_);cases h;exact absurd h2 jF
 replace h:=bJ b8 h
 refine Ft (by simp+decide only[F,reduceIte,Nat.reduceAdd,qB,qC,b3,b8]) ?_
 refine sq ?_
 obtain⟨x9,I,h⟩:=bind_some h
 apply iR
 ·simp+decide only[E,reduceIte,Nat.reduceAdd,Nat.reduceMul,qB,qC,L,L8,EN,b3,b8]
  refine⟨_,YA.1 _ _ I,?_⟩
  try simp+decide only[E,reduceIte,Nat.reduceAdd,Nat.reduceMul,qB,qC,L,L8,EN,b3,b8]
  exact Is.mk _
 refine an (rt ?_)
 cases h
 simp[Ret,EN,L8,M.aJs.en,M.aG.en,M.aJl.en,M.aD.en,M.aW.en,enB,b3,b8]
theorem aAk(j C:M.aJa)(r:(M.aJa×Bool))(h:nH j C=some r)(h2:r.2=true):pC Tryz.prog 237 [(true,M.aJa.en j),(true,M.aJa.en C)] [(false,[.edit .pass])]:=by
 unfold nH at h
 simp only[M.aJa.en]
 refine Zp (N:=17) (vars:=[.cell 4 84,.tmp 5]) Tryz.func237 rfl rfl rfl jH jG λbase wd J=> ?_
 refine sq ?_
 apply iR
 ·simp+decide only[LP,E,reduceIte,Nat.reduceAdd,Nat.reduceMul,qB,qC,L,L8,EN];exact Is.mk _
 refine an (sq (sq ?_))
 obtain⟨x1,h2,h⟩:=bind_some h
 rcases cK (!x1)with b3|b3
 ·replace h:=bJ b3 h
  apply iR
  ·simp+decide only[LP,E,reduceIte,Nat.reduceAdd,Nat.reduceMul,qB,qC,L,L8,EN,b3]
   refine⟨_,Yz.1 _ _ h2,?_⟩
   try simp+decide only[LP,E,reduceIte,Nat.reduceAdd,Nat.reduceMul,qB,qC,L,L8,EN,b3]
   exact Is.mk _
  refine an ?_
  refine Ft (by simp+decide only[LP,F,reduceIte,Nat.reduceAdd,qB,qC,b3]) ?_
  refine sq ?_
  obtain⟨x4,h5,h⟩:=bind_some h
  apply iR
  ·simp+decide only[LP,E,reduceIte,Nat.reduceAdd,Nat.reduceMul,qB,qC,L,L8,EN,b3]
   refine⟨_,YA.1 _ _ h5,?_⟩
   try simp+decide only[LP,E,reduceIte,Nat.reduceAdd,Nat.reduceMul,qB,qC,L,L8,EN,b3]
   exact Is.mk _
  refine an (rt ?_)
  cases h
  exact absurd h2 jF
 replace h:=bI b3 h
 obtain⟨x6,h7,h⟩:=bind_some h
 apply iR
 ·simp+decide only[LP,E,reduceIte,Nat.reduceAdd,Nat.reduceMul,qB,qC,L,L8,EN,b3]
  refine⟨_,Yz.1 _ _ h2,?_⟩
  try simp+decide only[LP,E,reduceIte,Nat.reduceAdd,Nat.reduceMul,qB,qC,L,L8,EN,b3]
  refine⟨_,Yz.1 _ _ h7,?_⟩
  try simp+decide only[LP,E,reduceIte,Nat.reduceAdd,Nat.reduceMul,qB,qC,L,L8,EN,b3]
  exact Is.mk _
 refine an ?_
 rcases GB (!x6)with b8|b8
 ·replace h:=bI b8 h;refine F6 (by simp+decide only[LP,F,reduceIte,Nat.reduceAdd,qB,qC,b3,b8]) ?_;refine sk (an (sq ?_));apply iR;(simp+decide only[LP,E,reduceIte,Nat.reduceAdd,Nat.reduceMul,qB,qC,L,L8,EN,b3,b8];exact Is.mk _);refine an (rt ?_);cases h;simp[aCO,LP,M.aJa.en,L8,b3,b8]
 replace h:=bJ b8 h
 refine Ft (by simp+decide only[LP,F,reduceIte,Nat.reduceAdd,qB,qC,b3,b8]) ?_
 refine sq ?_
 obtain⟨x9,I,h⟩:=bind_some h
 apply iR
 ·simp+decide only[LP,E,reduceIte,Nat.reduceAdd,Nat.reduceMul,qB,qC,L,L8,EN,b3,b8]
  refine⟨_,YA.1 _ _ I,?_⟩
  try simp+decide only[LP,E,reduceIte,Nat.reduceAdd,Nat.reduceMul,qB,qC,L,L8,EN,b3,b8]
  exact Is.mk _
 refine an (rt ?_)
 cases h
 exact absurd h2 jF
instance:aZ 123 (∀p0 p1 r (h:vQ p0 p1=some r),Sc 123 [aX (M.aJa.en p0),aX (M.bL.en p1)] [(true,M.aJa.rs r.1),rB r.2]):=⟨λp0 p1 r h=>by
 unfold vQ at h
 simp only[EN]
 refine sgn 17 [.cell 4 84,.tmp 5] Tryz.func123 λbase wd => ?_
 refine sq (rn ?_)
 refine an (sq ?_)
 obtain⟨x1,h2,h⟩:=bind_some h
 refine rn1 (YA.1 _ _ h2) ?_
 refine an (sq ?_)
 obtain⟨x3,h4,h⟩:=bind_some h
 refine rn1 (aCK.1 _ _ h4) ?_
 refine an (sq ?_)
 obtain⟨x5,h6,h⟩:=bind_some h
 rcases cK x5.2 with b7 | b7
 ·replace h:=bJ b7 h;refine rn1 (aAk _ _ _ h6 b7) ?_;refine an (rt ?_);cases h;simp[Ret,TB,EN, *]
 replace h:=bI b7 h
 refine rn1 (aAp _ _ _ h6 b7) ?_
 refine an (rt ?_)
 cases h
 simp[Ret,TB,EN, *]⟩
instance:aZ 238 (∀p0 p1 r (h:zO p0 p1=some r),Sc 238 [aX (M.aC.en p0),aX (M.aJa.en p1)] [(true,M.aC.rs r.1),rB r.2]):=⟨λp0 p1 r h=>by
 have i1:=λ(x1:M.aC)=>inv λm s=>∃v8:Int,(s.t 2=vP 2 1 0/\s.t 3=vP 3 1 0/\s.t 4=vP 4 1 0/\s.t 6=vP 6 1 0/\s.t 8=vI v8/\s.h 2=(1,oX 39 (M.aC.en p0))/\s.h 3=(1,oX 84 (M.aJa.en p1))/\s.h 4=(1,oB 39 [.nil])/\s.h 6=(1,oB 39 [.row 100011 1])/\s.h 100011=(1,oW 84 24 M.aJa.en x1.aJh))/\lA p0 p1 x1 m v8=some r
 have e1:=@lA.eq_2
 unfold zO at h
 exact sgo 74 [.cell 4 39,.tmp 5] Tryz.func238⟩
instance:aZ 124 (∀p0 p1 p2 r (h:oQ p0 p1 p2=some r),Sc 124 [aX (M.World.en p0),aX (M.aJa.en p1),aB p2] [(true,M.World.rs r.1),rB r.2]):=⟨λp0 p1 p2 r h=>by unfold oQ at h;exact sgo 30 [.cell 6 50,.tmp 7] Tryz.func124⟩
instance:aZ 36 (∀p0 p1 p2 p3 p4 r (h:tK p0 p1 p2 p3 p4=some r),Sc 36 [aX (M.World.en p0),aX (M.bD.en p1),aI p2,aS p3,aI p4] [(true,M.World.rs r.1),rB r.2]):=⟨λp0 p1 p2 p3 p4 r h=>by unfold tK at h;exact sgo 84 [.cell 10 50,.tmp 11] Tryz.func36⟩
instance:aZ 125 (∀p0 p1 p2 p3 r (h:xU p0 p1 p2 p3=some r),Sc 125 [aX (M.aE.en p0),aX (M.Key.en p1),aS p2,aI p3] [(true,M.aE.rs r.1),rB r.2]):=⟨λp0 p1 p2 p3 r h=>by unfold xU at h;exact sgo 53 [.cell 8 82,.tmp 9] Tryz.func125⟩
instance:aZ 126 (∀p0 p1 r (h:pA p0 p1=some r),Sc 126 [aX (M.aJa.en p0),aX (M.aE.en p1)] [(true,M.aJa.rs r.1),rB r.2]):=⟨λp0 p1 r h=>by
 unfold pA at h
 simp only[EN]
 refine sgn 17 [.cell 4 84,.tmp 5] Tryz.func126 λbase wd => ?_
 refine sq (rn ?_)
 refine an (sq ?_)
 obtain⟨x1,h2,h⟩:=bind_some h
 refine rn1 (YA.1 _ _ h2) ?_
 refine an (sq ?_)
 obtain⟨x3,h4,h⟩:=bind_some h
 refine rn1 (aBu.1 _ _ h4) ?_
 refine an (sq ?_)
 obtain⟨x5,h6,h⟩:=bind_some h
 rcases cK x5.2 with b7 | b7
 ·replace h:=bJ b7 h;refine rn1 (aAk _ _ _ h6 b7) ?_;refine an (rt ?_);cases h;simp[Ret,TB,EN, *]
 replace h:=bI b7 h
 refine rn1 (aAp _ _ _ h6 b7) ?_
 refine an (rt ?_)
 cases h
 simp[Ret,TB,EN, *]⟩
instance:aZ 38 (∀p0 p1 p2 p3 p4 r (h:wO p0 p1 p2 p3 p4=some r),Sc 38 [aX (M.World.en p0),aX (M.bD.en p1),aI p2,aS p3,aI p4] [(true,M.World.rs r.1),rB r.2]):=⟨λp0 p1 p2 p3 p4 r h=>by unfold wO at h;exact sgo 60 [.cell 10 50,.tmp 11] Tryz.func38⟩
theorem c7(p0 p1 r)(h:wW p0 p1=some r):Sc 7 [aX (M.World.en p0),aI p1] [(true,M.World.rs r.1),rI r.2]:=by unfold wW at h;exact sgo 133 [.cell 4 50,.tmp 5] Tryz.func7
