/-
  Helper text. No conditions.
-/
import Derived.Test.YtbpbocchokbggaaGreatUpdatesWspec8
set_option linter.all false
namespace Go.Proofs.YtbpbocchokbggaaGreat.gen
open Go Go.Sh
set_option maxRecDepth 20000
set_option maxHeartbeats 4000000
instance:bE 127 (∀p0 r (h:cV p0=some r),Sc 127 [aX (M.aA.en p0)] [rB r]):=⟨λp0 r h=>by
 have i1:=inv λm s=>∃v3:Int,(s.t 1=vP 1 1 0/\s.t 3=vI v3/\s.h 1=(1,oX 47 (M.aA.en p0)))/\gP p0 m v3=some r
 have e1:=@gP.eq_2
 unfold cV at h
 exact sgo 48 [.tmp 2] Tryz.func127⟩
instance c23:bE 23 (∀p0 r (h:gY p0=some r),Sc 23 [aX (M.World.en p0)] [rB r]):=⟨λp0 r h=>by
 have i1:=inv λm s=>∃v3:Int,(s.t 1=vP 1 1 0/\s.t 3=vI v3/\s.h 1=(1,oX 58 (M.World.en p0)))/\nH p0 m v3=some r
 have e1:=@nH.eq_2
 have i2:=inv λm s=>∃v4:Int,(s.t 1=vP 1 1 0/\s.t 4=vI v4/\s.h 1=(1,oX 58 (M.World.en p0)))/\eD p0 m v4=some r
 have e2:=@eD.eq_2
 unfold gY at h
 exact sgo 126 [.tmp 2] Tryz.func23⟩
instance:bE 374 (∀p0 p1 r (h:lX p0 p1=some r),Sc 374 [aX (M.World.en p0),aI p1] [(true,M.World.rs r.1),rB r.2]):=⟨λp0 p1 r h=>by
 unfold lX at h
 simp only[EN]
 refine sgn 43 [.cell 4 58,.tmp 5] Tryz.func374 λbase wd => ?_
 refine sq (rn ?_)
 refine an (sq ?_)
 obtain⟨x1,h2,h⟩:=bind_some h
 refine rn1 (c43.1 _ _ h2) ?_
 refine an (sq ?_)
 obtain⟨x3,h4,h⟩:=bind_some h
 refine rn1 (aIo _ _ _ h4) ?_
 refine an (sq (sq ?_))
 obtain⟨x5,h6,h⟩:=bind_some h
 rcases mT (!x5)with b7 | b7
 ·replace h:=bZ b7 h;refine rn1 (c23.1 _ _ h6) ?_;refine an (ct (sq (rn ?_)));refine an (rt ?_);cases h;simp[Ret,TB,EN, *]
 replace h:=bY b7 h
 refine rn1 (c23.1 _ _ h6) ?_
 refine an ?_
 rcases mT (decide (x3<0))with b8 | b8
 ·replace h:=bZ b8 h;refine ct (sq (rn ?_));refine an (rt ?_);cases h;simp[Ret,TB,EN, *]
 replace h:=bY b8 h
 refine cf (sk (an (sq ?_)))
 obtain⟨x9,aa,h⟩:=bind_some h
 obtain⟨aj,ae,h⟩:=bind_some h
 obtain⟨ak,af,h⟩:=bind_some h
 apply BH mixed
 ·simp +decide only[E,reduceIte,Nat.reduceAdd,Nat.reduceMul,qB,qC,<-List.map_take,<-List.map_drop,Nat.sub_zero,L,Y7,D9,Za,M.bG.en,EN,b7,b8]
  refine⟨by first | exact rU aa | exact(rU aa).2 | exact(rU aa).2.2,?_⟩
  try simp +decide only[E,reduceIte,Nat.reduceAdd,Nat.reduceMul,qB,qC,<-List.map_take,<-List.map_drop,Nat.sub_zero,L,Y7,D9,Za,M.bG.en,EN,b7,b8]
  refine⟨by first | exact Ex ae | exact(Ex ae).2 | exact(Ex ae).2.2,?_⟩
  try simp +decide only[E,reduceIte,Nat.reduceAdd,Nat.reduceMul,qB,qC,<-List.map_take,<-List.map_drop,Nat.sub_zero,L,Y7,D9,Za,M.bG.en,EN,b7,b8]
  refine⟨by first | exact Fx (f:=M.bG.en) (sz:=11) (λ_=>rfl) jE aa ae af | (have hb:=Fx (f:=M.bG.en) (sz:=11) (λ_=>rfl) jE aa ae af;simpa using hb),?_⟩
  try simp +decide only[E,reduceIte,Nat.reduceAdd,Nat.reduceMul,qB,qC,<-List.map_take,<-List.map_drop,Nat.sub_zero,L,Y7,D9,Za,M.bG.en,EN,b7,b8]
  exact⟨.mk jF,Is.mk _⟩
 refine an (sq ?_)
 refine cu (λs=>s.t 1=vI p1/\s.t 2=vP 2 1 0/\s.t 4=vP 4 1 0/\s.t 6=vP 6 1 0/\s.h 2=(1,oX 58 (M.World.en p0))/\s.h 4=(1,Q6)/\s.h 6=(1,oB 58 [cI x1.Now,cB x1.aJV,cI x1.aJA,.row 400009 1,.row 500009 2,cI x1.aJG,.row 700009 1,.row 800009 1,.row 900009 1,.row 1000009 1])/\s.h 400009=(1,oW 126 24 M.aI3.en x1.aA.aI4)/\s.h 500009=(2,oW 67 11 M.bG.en ((List.take x3.toNat x1.aJI)++(List.drop (IntKind.i64.wrap (x3+1)).toNat x1.aJI)))/\s.h 700009=(1,oW 196 4 M.mV.en x1.aJJ.aJJ)/\s.h 800009=(1,oW 199 3 M.AP.en x1.aJD.aJe)/\s.h 900009=(1,oW 92 4 M.aI7.en x1.aJL)/\s.h 1000009=(1,oW 205 5 M.aJC.en x1.aJK)/\True) ?_
 rintro al f16
 obtain⟨ao,ah,h⟩:=bind_some h
 refine rn1 (aIl _ _ _ ah) ?_
 refine an (sq ?_)
 obtain⟨aq,ai,h⟩:=bind_some h
 refine rn1 (aIX _ _ _ ai) ?_
 refine an (sq (rn ?_))
 refine an (rt ?_)
 cases h
 simp[Ret,TB,EN, *]⟩
instance aDH:bE 103 (∀p0 p1 p2 r (h:tG p0 p1 p2=some r),Sc 103 [aS p0,aS p1,aI p2] [(true,M.aI3.rs r.1),rB r.2]):=⟨λp0 p1 p2 r h=>by unfold tG at h;exact sgo 42 [.cell 6 126,.tmp 7] Tryz.func103⟩
instance:bE 106 (∀p0 p1 r (h:gQ p0 p1=some r),Sc 106 [aX (M.aA.en p0),aX (M.aI3.en p1)] [(true,M.aA.rs r.1),rB r.2]):=⟨λp0 p1 r h=>by
 have i1:=λ(x1:M.aA)=>inv λm s=>∃v8:Int,(s.t 2=vP 2 1 0/\s.t 3=vP 3 1 0/\s.t 4=vP 4 1 0/\s.t 6=vP 6 1 0/\s.t 8=vI v8/\s.h 2=(1,oX 47 (M.aA.en p0))/\s.h 3=(1,oX 126 (M.aI3.en p1))/\s.h 4=(1,oB 47 [.nil])/\s.h 6=(1,oB 47 [.row 100011 1])/\s.h 100011=(1,oW 126 24 M.aI3.en x1.aI4))/\mU p0 p1 x1 m v8=some r
 have e1:=@mU.eq_2
 unfold gQ at h
 exact sgo 74 [.cell 4 47,.tmp 5] Tryz.func106⟩
instance:bE 20 (∀p0 p1 p2 p3 r (h:lM p0 p1 p2 p3=some r),Sc 20 [aX (M.World.en p0),aS p1,aS p2,aL M.Instr.en p3] [(true,M.World.rs r.1),rI r.2.1,rB r.2.2]):=⟨λp0 p1 p2 p3 r h=>by unfold lM at h;exact sgo 130 [.cell 8 58,.tmp 9,.tmp 10] Tryz.func20⟩
instance:bE 571 (∀p0 p1 r (h:lD p0 p1=some r),Sc 571 [aX (M.World.en p0),aS p1] [(true,M.World.rs r.1),rB r.2]):=⟨λp0 p1 r h=>by unfold lD at h;exact sgo 38 [.cell 4 58,.tmp 5] Tryz.func571⟩
theorem aCV(j C:M.aI3)(r:(M.aI3×Bool))(h:tO j C=some r)(h2:r.2=false):kD Tryz.prog 174 [(true,M.aI3.en j),(true,M.aI3.en C)] [(true,[.ro (.str r.1.aI7),.ro (.str r.1.Top),.ro (.str r.1.aIz.aI7),.ro (.int .i64 r.1.aIz.aJP),.ro (.int .i64 r.1.aIz.aJT),.ro (.int .i64 r.1.aIz.aJX),.own 345 2 (List.map M.aI5.en r.1.aI1.aI1),.ro (.str r.1.bR.aJQ.Name),.ro (.int .i64 r.1.bR.aJQ.aI0),.own 117 3 (List.map M.aD.en r.1.bR.aJQ.aJF),.own 471 2 (List.map M.aN.en r.1.bR.aJQ.aJO),.own 5 1 (List.map enB r.1.bR.Log),.ro (.int .i64 r.1.bR.aJi),.ro (.str r.1.aG.aJQ.Name),.own 260 4 (List.map M.aJN.en r.1.aG.aJQ.aI6),.ro (.int .i64 r.1.aG.aJQ.aJa),.ro (.int .i64 r.1.aG.aJm),.ro (.int .i64 r.1.aG.aJR.aK.aJA),.ro (.int .i64 r.1.aG.aJR.aK.aJd),.own 328 7 (List.map M.bC.en r.1.aG.aJR.aK.aJM),.ro (.int .i64 r.1.aG.aJR.aJh),.ro (.int .i64 r.1.aG.aJR.aJY),.ro (.int .i64 r.1.aJc),.ro (.bool r.1.aJZ)]),(false,[.ro (.bool r.2)])]:=by
 unfold tO at h
 simp only[M.aI3.en]
 refine OR (N:=17) (vars:=[.cell 4 126,.tmp 5]) Tryz.func174 rfl rfl rfl jF (Nat.le_of_ble_eq_true rfl) λbase wd=> ?_
 refine sq ?_
 apply bJ
 ·simp+decide only[E,reduceIte,Nat.reduceAdd,Nat.reduceMul,qB,qC,L,Cg,EN];exact Is.mk _
 refine an (sq (sq ?_))
 obtain⟨x1,h2,h⟩:=bind_some h
 rcases mT (!x1)with b3|b3
 ·replace h:=bZ b3 h
  apply bJ
  ·simp+decide only[E,reduceIte,Nat.reduceAdd,Nat.reduceMul,qB,qC,L,Cg,EN,b3]
   refine⟨_,Zr.1 _ _ h2,?_⟩
   try simp+decide only[E,reduceIte,Nat.reduceAdd,Nat.reduceMul,qB,qC,L,Cg,EN,b3]
   exact Is.mk _
  refine an ?_
  refine CF (by simp+decide only[F,reduceIte,Nat.reduceAdd,qB,qC,b3]) ?_
  refine sq ?_
  obtain⟨x4,h5,h⟩:=bind_some h
  apply bJ
  ·simp+decide only[E,reduceIte,Nat.reduceAdd,Nat.reduceMul,qB,qC,L,Cg,EN,b3]
   refine⟨_,aAY.1 _ _ h5,?_⟩
   try simp+decide only[E,reduceIte,Nat.reduceAdd,Nat.reduceMul,qB,qC,L,Cg,EN,b3]
   exact Is.mk _
  refine an (rt ?_)
  cases h
  simp[Ret,EN,Cg,M.aI5.en,M.aN.en,M.aJN.en,M.aD.en,M.bC.en,enB,b3]
 replace h:=bY b3 h
 obtain⟨x6,h7,h⟩:=bind_some h
 apply bJ
 ·simp+decide only[E,reduceIte,Nat.reduceAdd,Nat.reduceMul,qB,qC,L,Cg,EN,b3]
  refine⟨_,Zr.1 _ _ h2,?_⟩
  try simp+decide only[E,reduceIte,Nat.reduceAdd,Nat.reduceMul,qB,qC,L,Cg,EN,b3]
  refine⟨_,Zr.1 _ _ h7,?_⟩
  try simp+decide only[E,reduceIte,Nat.reduceAdd,Nat.reduceMul,qB,qC,L,Cg,EN,b3]
  exact Is.mk _
 refine an ?_
 rcases C1 (!x6)with b8|b8
 ·replace h:=bY b8 h;refine Ev (by simp+decide only[F,reduceIte,Nat.reduceAdd,qB,qC,b3,b8]) ?_;refine sk (an (sq ?_));apply bJ;(simp+decide only[E,reduceIte,Nat.reduceAdd,Nat.reduceMul,qB,qC,L,Cg,EN,b3,b8];exact Is.mk _);refine an (rt ?_);cases h;exact absurd h2 jD
 replace h:=bZ b8 h
 refine CF (by simp+decide only[F,reduceIte,Nat.reduceAdd,qB,qC,b3,b8]) ?_
 refine sq ?_
 obtain⟨x9,I,h⟩:=bind_some h
 apply bJ
 ·simp+decide only[E,reduceIte,Nat.reduceAdd,Nat.reduceMul,qB,qC,L,Cg,EN,b3,b8]
  refine⟨_,aAY.1 _ _ I,?_⟩
  try simp+decide only[E,reduceIte,Nat.reduceAdd,Nat.reduceMul,qB,qC,L,Cg,EN,b3,b8]
  exact Is.mk _
 refine an (rt ?_)
 cases h
 simp[Ret,EN,Cg,M.aI5.en,M.aN.en,M.aJN.en,M.aD.en,M.bC.en,enB,b3,b8]
theorem aDJ(j C:M.aI3)(r:(M.aI3×Bool))(h:tO j C=some r)(h2:r.2=true):kD Tryz.prog 174 [(true,M.aI3.en j),(true,M.aI3.en C)] [(false,[.edit .pass])]:=by
 unfold tO at h
 simp only[M.aI3.en]
 refine ZX (N:=17) (vars:=[.cell 4 126,.tmp 5]) Tryz.func174 rfl rfl rfl jF jE λbase wd J=> ?_
 refine sq ?_
 apply bJ
 ·simp+decide only[LP,E,reduceIte,Nat.reduceAdd,Nat.reduceMul,qB,qC,L,Cg,EN];exact Is.mk _
 refine an (sq (sq ?_))
 obtain⟨x1,h2,h⟩:=bind_some h
 rcases mT (!x1)with b3|b3
 ·replace h:=bZ b3 h
  apply bJ
  ·simp+decide only[LP,E,reduceIte,Nat.reduceAdd,Nat.reduceMul,qB,qC,L,Cg,EN,b3]
   refine⟨_,Zr.1 _ _ h2,?_⟩
   try simp+decide only[LP,E,reduceIte,Nat.reduceAdd,Nat.reduceMul,qB,qC,L,Cg,EN,b3]
   exact Is.mk _
  refine an ?_
  refine CF (by simp+decide only[LP,F,reduceIte,Nat.reduceAdd,qB,qC,b3]) ?_
  refine sq ?_
  obtain⟨x4,h5,h⟩:=bind_some h
  apply bJ
  ·simp+decide only[LP,E,reduceIte,Nat.reduceAdd,Nat.reduceMul,qB,qC,L,Cg,EN,b3]
   refine⟨_,aAY.1 _ _ h5,?_⟩
   try simp+decide only[LP,E,reduceIte,Nat.reduceAdd,Nat.reduceMul,qB,qC,L,Cg,EN,b3]
   exact Is.mk _
  refine an (rt ?_)
  cases h
  exact absurd h2 jD
 replace h:=bY b3 h
 obtain⟨x6,h7,h⟩:=bind_some h
 apply bJ
 ·simp+decide only[LP,E,reduceIte,Nat.reduceAdd,Nat.reduceMul,qB,qC,L,Cg,EN,b3]
  refine⟨_,Zr.1 _ _ h2,?_⟩
  try simp+decide only[LP,E,reduceIte,Nat.reduceAdd,Nat.reduceMul,qB,qC,L,Cg,EN,b3]
  refine⟨_,Zr.1 _ _ h7,?_⟩
  try simp+decide only[LP,E,reduceIte,Nat.reduceAdd,Nat.reduceMul,qB,qC,L,Cg,EN,b3]
  exact Is.mk _
 refine an ?_
 rcases C1 (!x6)with b8|b8
 ·replace h:=bY b8 h;refine Ev (by simp+decide only[LP,F,reduceIte,Nat.reduceAdd,qB,qC,b3,b8]) ?_;refine sk (an (sq ?_));apply bJ;(simp+decide only[LP,E,reduceIte,Nat.reduceAdd,Nat.reduceMul,qB,qC,L,Cg,EN,b3,b8];exact Is.mk _);refine an (rt ?_);cases h;simp[aDK,LP,M.aI3.en,Cg,b3,b8]
 replace h:=bZ b8 h
 refine CF (by simp+decide only[LP,F,reduceIte,Nat.reduceAdd,qB,qC,b3,b8]) ?_
 refine sq ?_
 obtain⟨x9,I,h⟩:=bind_some h
 apply bJ
 ·simp+decide only[LP,E,reduceIte,Nat.reduceAdd,Nat.reduceMul,qB,qC,L,Cg,EN,b3,b8]
  refine⟨_,aAY.1 _ _ I,?_⟩
  try simp+decide only[LP,E,reduceIte,Nat.reduceAdd,Nat.reduceMul,qB,qC,L,Cg,EN,b3,b8]
  exact Is.mk _
 refine an (rt ?_)
 cases h
 exact absurd h2 jD
instance:bE 144 (∀p0 p1 p2 r (h:pD p0 p1 p2=some r),Sc 144 [aX (M.aI3.en p0),aX (M.aC.en p1),aX (M.aIz.en p2)] [(true,M.aI3.rs r.1),rB r.2]):=⟨λp0 p1 p2 r h=>by
 unfold pD at h
 simp only[EN]
 refine sgn 21 [.cell 6 126,.tmp 7] Tryz.func144 λbase wd => ?_
 refine sq (rn ?_)
 refine an (sq ?_)
 obtain⟨x1,h2,h⟩:=bind_some h
 refine rn1 (aAY.1 _ _ h2) ?_
 refine an (sq ?_)
 obtain⟨x3,h4,h⟩:=bind_some h
 refine rn1 (Yn.1 _ _ h4) ?_
 refine an (sq (rn ?_))
 refine an (sq ?_)
 obtain⟨x5,h6,h⟩:=bind_some h
 rcases mT x5.2 with b7 | b7
 ·replace h:=bZ b7 h;refine rn1 (aDJ _ _ _ h6 b7) ?_;refine an (rt ?_);cases h;simp[Ret,TB,EN, *]
 replace h:=bY b7 h
 refine rn1 (aCV _ _ _ h6 b7) ?_
 refine an (rt ?_)
 cases h
 simp[Ret,TB,EN, *]⟩
instance:bE 49 (∀p0 p1 p2 r (h:Ag p0 p1 p2=some r),Sc 49 [aX (M.World.en p0),aX (M.aI3.en p1),aB p2] [(true,M.World.rs r.1),rB r.2]):=⟨λp0 p1 p2 r h=>by unfold Ag at h;exact sgo 30 [.cell 6 58,.tmp 7] Tryz.func49⟩
instance:bE 165 (∀p0 r (h:Ba p0=some r),Sc 165 [aX (M.bR.en p0)] [(true,M.aI2.rs r.1),rI r.2]):=⟨λp0 r h=>by
 have i1:=λ(x3:((List (List Int))×Int))=>E5 [.b 4 2 7050000 117 3,.b 4 3 7050001 471 2] λm s=>∃v7:Int,∃ai:ByteArray,∃aj:Int,∃aa:List M.aD,∃ae:List M.aN,∃af:Nat,∃ah:Nat,(s.t 2=vP 2 1 0/\s.t 4=vP 4 1 0/\s.t 5=vR 100019 1/\s.t 7=vI v7/\s.h 2=(1,Ey)/\s.h 4=(1,oB 112 [cS ai,cI aj,.row 7050000 af,.row 7050001 ah])/\s.h 100019=(1,oW 74 1 (enL enB) x3.1)/\s.h 7050000=(af,oW 117 3 M.aD.en aa)/\s.h 7050001=(ah,oW 471 2 M.aN.en ae))/\sZ x3 m v7 ai aj aa ae=some r
 have e1:=@sZ.eq_2
 unfold Ba at h
 exact sgo 51 [.cell 2 112,.tmp 3] Tryz.func165⟩
instance c46:bE 46 (∀p0 p1 r (h:pU p0 p1=some r),Sc 46 [aX (M.bR.en p0),aL M.Op.en p1] [(true,M.bR.rs r.1),rB r.2]):=⟨λp0 p1 r h=>by unfold pU at h;exact sgo 64 [.cell 4 114,.tmp 5] Tryz.func46⟩
instance:bE 470 (∀p0 r (h:xJ p0=some r),Sc 470 [(false,[.ptr [.sl (List.map enB p0.b),.int .i64 p0.i,.int .i64 p0.h]])] [(false,[.edit (.lend 304 [.int .i64 r.1,.int .i64 r.2.1])]),(true,M.aI3.rs r.2.2)]):=⟨λp0 r h=>by
 unfold xJ at h
 simp only[EN]
 refine sgB 90 [.cell 2 126] Tryz.func470 λbase wd B0 u0 hw0 => ?_
 refine dR (J:=λs=>s.t 0=vP 7059000 1 0/\s.h 7059000=(1,oB 304 [.old B0 (.sl (List.map enB p0.b)) (some u0),cI p0.i,cI p0.h])/\True) ?_ ?_
 ·and_intros<;>(try simp only[LN,List.map_cons,List.map_nil])<;>rfl
 rintro s1 f2
 refine sq (rn ?_)
 refine an (sq ?_)
 obtain⟨x4,h5,h⟩:=bind_some h
 refine rn1 (aA3.1 _ _ h5) ?_
 refine an (sq ?_)
 refine cu (λs=>s.t 0=vP 7059000 1 0/\s.t 2=vP 2 ((s1.h 2).1+1) 0/\s.t 3=vS x4.2.2/\s.h 2=((s1.h 2).1+1,HN)/\s.h 7059000=(1,oB 304 [.old B0 (.sl (List.map enB p0.b)) (some u0),cI x4.1,cI x4.2.1])/\True) ?_
 rintro s6 f7
 refine rn ?_
 refine an ?_
 obtain⟨cy,cz,h⟩:=bind_some h
 refine wJ (λs=>s.t 0=vP 7059000 1 0/\s.t 2=vP 2 ((s1.h 2).1+1) 0/\s.t 3=vS x4.2.2/\s.t 4=vS cy.1/\s.h 2=((s1.h 2).1+1,HN)/\s.h 7059000=(1,oB 304 [.old B0 (.sl (List.map enB p0.b)) (some u0),cI cy.2.1,cI cy.2.2])/\True) ?_ ?_
 ·replace h:=cz;clear cz;refine sq ?_;obtain⟨cr,dz,h⟩:=bind_some h;refine rn1 (c92.1 _ _ _ dz) ?_;refine an ?_;refine cu (λs=>s.t 0=vP 7059000 1 0/\s.t 2=vP 2 ((s1.h 2).1+1) 0/\s.t 3=vS x4.2.2/\s.t 4=vS x4.2.2/\s.t 15=vB cr.2.2/\s.h 2=((s1.h 2).1+1,HN)/\s.h 7059000=(1,oB 304 [.old B0 (.sl (List.map enB p0.b)) (some u0),cI cr.1,cI cr.2.1])/\True) ?_;rintro fo f24;rcases C1 cr.2.2 with da | da;(replace h:=bY da h;refine cf (sk ?_);cases h;refine iU ⟨?_,?_,?_,?_,?_,?_,trivial⟩<;>(try simp +decide only[F,reduceIte,Nat.reduceAdd,qB,qC,EN, *,-h]));replace h:=bZ da h;refine ct ?_;obtain⟨fq,ef,h⟩:=bind_some h;refine rn1 (aA3.1 _ _ ef) ?_;cases h;refine iU ⟨?_,?_,?_,?_,?_,?_,trivial⟩<;>(try simp +decide only[F,reduceIte,Nat.reduceAdd,qB,qC,EN, *,-h])
 clear cz
 rintro ao f15
 refine sq ?_
 obtain⟨dx,eg,h⟩:=bind_some h
 obtain⟨aa,eh,h⟩:=bind_some h
 refine rn2 (O4.1 _ _ _ eg) (aDH.1 _ _ _ _ eh) ?_
 refine an (sq (sq ?_))
 refine cu (λs=>s.t 0=vP 7059000 1 0/\s.t 2=vP 2 ((s1.h 2).1+1) 0/\s.t 5=vP 5 ((ao.h 5).1+1) 0/\s.h 2=((s1.h 2).1+1,HN)/\s.h 5=((ao.h 5).1+1,oB 126 [cS aa.1.aI7,cS aa.1.Top,cS aa.1.aIz.aI7,cI aa.1.aIz.aJP,cI aa.1.aIz.aJT,cI aa.1.aIz.aJX,.row 700024 ((ao.h 700024).1+1),cS aa.1.bR.aJQ.Name,cI aa.1.bR.aJQ.aI0,.row 1000024 ((ao.h 1000024).1+1),.row 1100024 ((ao.h 1100024).1+1),.row 1200024 ((ao.h 1200024).1+1),cI aa.1.bR.aJi,cS aa.1.aG.aJQ.Name,.row 1500024 ((ao.h 1500024).1+1),cI aa.1.aG.aJQ.aJa,cI aa.1.aG.aJm,cI aa.1.aG.aJR.aK.aJA,cI aa.1.aG.aJR.aK.aJd,.row 2000024 ((ao.h 2000024).1+1),cI aa.1.aG.aJR.aJh,cI aa.1.aG.aJR.aJY,cI aa.1.aJc,cB aa.1.aJZ])/\s.h 700024=((ao.h 700024).1+1,oW 345 2 M.aI5.en aa.1.aI1.aI1)/\s.h 1000024=((ao.h 1000024).1+1,oW 117 3 M.aD.en aa.1.bR.aJQ.aJF)/\s.h 1100024=((ao.h 1100024).1+1,oW 471 2 M.aN.en aa.1.bR.aJQ.aJO)/\s.h 1200024=((ao.h 1200024).1+1,oW 5 1 enB aa.1.bR.Log)/\s.h 1500024=((ao.h 1500024).1+1,oW 260 4 M.aJN.en aa.1.aG.aJQ.aI6)/\s.h 2000024=((ao.h 2000024).1+1,oW 328 7 M.bC.en aa.1.aG.aJR.aK.aJM)/\s.h 7059000=(1,oB 304 [.old B0 (.sl (List.map enB p0.b)) (some u0),cI dx.1,cI dx.2.1])/\True) ?_
 rintro dy f39
 obtain⟨cl,et,h⟩:=bind_some h
 refine rn1 (O4.1 _ _ _ et) ?_
 refine an (bk ?_)
 refine cu (λs=>s.h 5=dy.h 5/\s.h 2000024=dy.h 2000024/\s.t 0=vP 7059000 1 0/\s.t 2=vP 2 ((s1.h 2).1+1) 0/\s.t 5=vP 5 ((ao.h 5).1+1) 0/\s.t 7=vI cl.2.2/\s.h 2=((s1.h 2).1+1,HN)/\s.h 700024=((ao.h 700024).1+1,oW 345 2 M.aI5.en aa.1.aI1.aI1)/\s.h 1000024=((ao.h 1000024).1+1,oW 117 3 M.aD.en aa.1.bR.aJQ.aJF)/\s.h 1100024=((ao.h 1100024).1+1,oW 471 2 M.aN.en aa.1.bR.aJQ.aJO)/\s.h 1200024=((ao.h 1200024).1+1,oW 5 1 enB aa.1.bR.Log)/\s.h 1500024=((ao.h 1500024).1+1,oW 260 4 M.aJN.en aa.1.aG.aJQ.aI6)/\s.h 7059000=(1,oB 304 [.old B0 (.sl (List.map enB p0.b)) (some u0),cI cl.1,cI cl.2.1])/\True) ?_
 rintro cw ⟨f59,f65,f54⟩
 replace f59:=f59.trans f39.2.2.2.2.1
 replace f65:=f65.trans f39.2.2.2.2.2.2.2.2.2.2.1
 refine GS (Gho.trans (Gho.trans (ghB 5 9 7050000 1000024) (ghB 5 10 7050001 1100024)) (ghB 5 11 7050002 1200024)) ?_
 refine Hs (λm s=>∃v7:Int,∃bq:ByteArray,∃br:Int,∃bn:Int,∃bl:Int,∃bm:Int,∃aq:List M.aD,∃ar:List M.aN,∃av:List Int,∃ah:Nat,∃ai:Nat,∃aj:Nat,s.h 2000024=cw.h 2000024/\s.t 0=vP 7059000 1 0/\s.t 2=vP 2 ((s1.h 2).1+1) 0/\s.t 5=vP 5 ((ao.h 5).1+1) 0/\s.t 7=vI v7/\s.h 2=((s1.h 2).1+1,HN)/\s.h 5=((ao.h 5).1+1,oB 126 [cS aa.1.aI7,cS aa.1.Top,cS aa.1.aIz.aI7,cI aa.1.aIz.aJP,cI aa.1.aIz.aJT,cI aa.1.aIz.aJX,.row 700024 ((ao.h 700024).1+1),cS bq,cI br,.row 7050000 ah,.row 7050001 ai,.row 7050002 aj,cI bn,cS aa.1.aG.aJQ.Name,.row 1500024 ((ao.h 1500024).1+1),cI aa.1.aG.aJQ.aJa,cI aa.1.aG.aJm,cI aa.1.aG.aJR.aK.aJA,cI aa.1.aG.aJR.aK.aJd,.row 2000024 ((ao.h 2000024).1+1),cI aa.1.aG.aJR.aJh,cI aa.1.aG.aJR.aJY,cI aa.1.aJc,cB aa.1.aJZ])/\s.h 700024=((ao.h 700024).1+1,oW 345 2 M.aI5.en aa.1.aI1.aI1)/\s.h 1500024=((ao.h 1500024).1+1,oW 260 4 M.aJN.en aa.1.aG.aJQ.aI6)/\s.h 7050000=(ah,oW 117 3 M.aD.en aq)/\s.h 7050001=(ai,oW 471 2 M.aN.en ar)/\s.h 7050002=(aj,oW 5 1 enB av)/\s.h 7059000=(1,oB 304 [.old B0 (.sl (List.map enB p0.b)) (some u0),cI bl,cI bm])/\gJ p0 aa m v7 bq br bn bl bm aq ar av=some r) fuel ?_ ?_
 ·refine⟨cl.2.2,aa.1.bR.aJQ.Name,aa.1.bR.aJQ.aI0,aa.1.bR.aJi,cl.1,cl.2.1,aa.1.bR.aJQ.aJF,aa.1.bR.aJQ.aJO,aa.1.bR.Log,(cw.h 7050000).1+1,(cw.h 7050001).1+1,(cw.h 7050002).1+1,?_,?_,?_,?_,?_,?_,?_,?_,?_,?_,?_,?_,?_,h⟩;all_goals simp +decide only[F,reduceIte,Nat.reduceAdd,qB,qC,EN, *,-h]
 rintro mL1 bw ⟨v7,bq,br,bn,bl,bm,aq,ar,av,ah,ai,aj,f76,f68,f69,f70,f71,f72,f73,f74,f75,f77,f78,f79,f80,h⟩
 replace f76:=f76.trans f65
 rcases mL1 with _ | mL1
 ·exact absurd h (by simp[gJ])
 simp only[gJ]at h
 refine sq (sq (rn ?_))
 refine an ?_
 rcases mT (decide (v7>0))with cd | cd
 ·replace h:=bZ cd h;refine ct (sk (an (sq (bk (sq ?_)))));obtain⟨ft,eu,h⟩:=bind_some h;obtain⟨cx,fa,h⟩:=bind_some h;obtain⟨bx,fc,h⟩:=bind_some h;refine rd3 mixed (aCB.1 _ _ eu) (aCA.1 _ _ fa) (c46.1 _ _ _ fc) ?_;refine an ?_;refine cu (λs=>s.h 5=bw.h 5/\s.h 2000024=bw.h 2000024/\s.t 0=vP 7059000 1 0/\s.t 2=vP 2 ((s1.h 2).1+1) 0/\s.t 5=vP 5 ((ao.h 5).1+1) 0/\s.t 7=vI v7/\s.t 8=vP 8 ((bw.h 8).1+1) 0/\s.h 2=((s1.h 2).1+1,HN)/\s.h 8=((bw.h 8).1+1,oB 114 [cS bx.1.aJQ.Name,cI bx.1.aJQ.aI0,.row 300042 ((bw.h 300042).1+1),.row 400042 ((bw.h 400042).1+1),.row 500042 ((bw.h 500042).1+1),cI bx.1.aJi])/\s.h 300042=((bw.h 300042).1+1,oW 117 3 M.aD.en bx.1.aJQ.aJF)/\s.h 400042=((bw.h 400042).1+1,oW 471 2 M.aN.en bx.1.aJQ.aJO)/\s.h 500042=((bw.h 500042).1+1,oW 5 1 enB bx.1.Log)/\s.h 700024=((ao.h 700024).1+1,oW 345 2 M.aI5.en aa.1.aI1.aI1)/\s.h 1500024=((ao.h 1500024).1+1,oW 260 4 M.aJN.en aa.1.aG.aJQ.aI6)/\s.h 7050000=(ah,oW 117 3 M.aD.en aq)/\s.h 7050001=(ai,oW 471 2 M.aN.en ar)/\s.h 7050002=(aj,oW 5 1 enB av)/\s.h 7059000=(1,oB 304 [.old B0 (.sl (List.map enB p0.b)) (some u0),cI cx.1,cI cx.2.1])/\True) ?_;rintro fw ⟨f95,f102,f89⟩;replace f95:=f95.trans f73;replace f102:=f102.trans f76;refine rn ?_;refine ab (an (rn ?_));refine iU ⟨_,Gho.trans (Gho.trans (ghB 5 9 7050000 300042) (ghB 5 10 7050001 400042)) (ghB 5 11 7050002 500042),mL1,jB,IntKind.i64.wrap (v7-1),bx.1.aJQ.Name,bx.1.aJQ.aI0,bx.1.aJi,cx.1,cx.2.1,bx.1.aJQ.aJF,bx.1.aJQ.aJO,bx.1.Log,ah+1,ai+1,aj+1,?_,?_,?_,?_,?_,?_,?_,?_,?_,?_,?_,?_,?_,h⟩;all_goals simp +decide only[F,reduceIte,Nat.reduceAdd,qB,qC,EN, *,-h]
 replace h:=bY cd h
 refine cf (xt (Gn (Gg (Lk (an (sq (sq ?_)))))))
 obtain⟨bu,db,h⟩:=bind_some h
 refine rn1 (O4.1 _ _ _ db) ?_
 refine an (bk ?_)
 refine cu (λs=>s.h 5=bw.h 5/\s.h 2000024=bw.h 2000024/\s.t 0=vP 7059000 1 0/\s.t 2=vP 2 ((s1.h 2).1+1) 0/\s.t 5=vP 5 ((ao.h 5).1+1) 0/\s.t 10=vI bu.2.2/\s.h 2=((s1.h 2).1+1,HN)/\s.h 700024=((ao.h 700024).1+1,oW 345 2 M.aI5.en aa.1.aI1.aI1)/\s.h 1500024=((ao.h 1500024).1+1,oW 260 4 M.aJN.en aa.1.aG.aJQ.aI6)/\s.h 7050000=(ah,oW 117 3 M.aD.en aq)/\s.h 7050001=(ai,oW 471 2 M.aN.en ar)/\s.h 7050002=(aj,oW 5 1 enB av)/\s.h 7059000=(1,oB 304 [.old B0 (.sl (List.map enB p0.b)) (some u0),cI bu.1,cI bu.2.1])/\True) ?_
 rintro cn ⟨f115,f118,f110⟩
 replace f115:=f115.trans f73
 replace f118:=f118.trans f76
 refine GS (Gho.trans (ghB 5 14 7050100 1500024) (ghB 5 19 7050101 2000024)) ?_
 refine Hs (λm s=>∃bo:Int,∃ay:ByteArray,∃az:Int,∃ba:Int,∃bd:Int,∃bf:Int,∃bg:Int,∃bh:Int,∃aw:Int,∃ax:Int,∃ak:List M.aJN,∃al:List M.bC,∃ae:Nat,∃af:Nat,s.t 0=vP 7059000 1 0/\s.t 2=vP 2 ((s1.h 2).1+1) 0/\s.t 5=vP 5 ((ao.h 5).1+1) 0/\s.t 10=vI bo/\s.h 2=((s1.h 2).1+1,HN)/\s.h 5=((ao.h 5).1+1,oB 126 [cS aa.1.aI7,cS aa.1.Top,cS aa.1.aIz.aI7,cI aa.1.aIz.aJP,cI aa.1.aIz.aJT,cI aa.1.aIz.aJX,.row 700024 ((ao.h 700024).1+1),cS bq,cI br,.row 7050000 ah,.row 7050001 ai,.row 7050002 aj,cI bn,cS ay,.row 7050100 ae,cI az,cI ba,cI bd,cI bf,.row 7050101 af,cI bg,cI bh,cI aa.1.aJc,cB aa.1.aJZ])/\s.h 700024=((ao.h 700024).1+1,oW 345 2 M.aI5.en aa.1.aI1.aI1)/\s.h 7050000=(ah,oW 117 3 M.aD.en aq)/\s.h 7050001=(ai,oW 471 2 M.aN.en ar)/\s.h 7050002=(aj,oW 5 1 enB av)/\s.h 7050100=(ae,oW 260 4 M.aJN.en ak)/\s.h 7050101=(af,oW 328 7 M.bC.en al)/\s.h 7059000=(1,oB 304 [.old B0 (.sl (List.map enB p0.b)) (some u0),cI aw,cI ax])/\gF p0 aa bq br bn aq ar av m bo ay az ba bd bf bg bh aw ax ak al=some r) fuel ?_ ?_
 ·refine⟨bu.2.2,aa.1.aG.aJQ.Name,aa.1.aG.aJQ.aJa,aa.1.aG.aJm,aa.1.aG.aJR.aK.aJA,aa.1.aG.aJR.aK.aJd,aa.1.aG.aJR.aJh,aa.1.aG.aJR.aJY,bu.1,bu.2.1,aa.1.aG.aJQ.aI6,aa.1.aG.aJR.aK.aJM,(cn.h 7050100).1+1,(cn.h 7050101).1+1,?_,?_,?_,?_,?_,?_,?_,?_,?_,?_,?_,?_,?_,h⟩;all_goals simp +decide only[F,reduceIte,Nat.reduceAdd,qB,qC,EN, *,-h]
 rintro mL2 bz ⟨bo,ay,az,ba,bd,bf,bg,bh,aw,ax,ak,al,ae,af,f124,f125,f126,f127,f128,f129,f130,f131,f132,f133,f134,f135,f136,h⟩
 rcases mL2 with _ | mL2
 ·exact absurd h (by simp[gF])
 simp only[gF]at h
 refine sq (sq (rn ?_))
 refine an ?_
 rcases mT (decide (bo>0))with bt | bt
 ·replace h:=bZ bt h
  refine ct (sk (an (sq (bk ?_))))
  obtain⟨fe,df,h⟩:=bind_some h
  obtain⟨ff,dg,h⟩:=bind_some h
  obtain⟨c9,dh,h⟩:=bind_some h
  obtain⟨bj,di,h⟩:=bind_some h
  apply BH mixed
  ·simp +decide only[E,reduceIte,Nat.reduceAdd,Nat.reduceMul,qB,qC,L,Ua,Cg,EN,cd,f124,f125,f126,f127,f128,f129,f130,f131,f132,f133,f134,f135,f136,bt]
   refine⟨_,aCB.1 _ _ df,?_⟩
   try simp +decide only[E,reduceIte,Nat.reduceAdd,Nat.reduceMul,qB,qC,L,Ua,Cg,EN,cd,f124,f125,f126,f127,f128,f129,f130,f131,f132,f133,f134,f135,f136,bt]
   refine⟨_,aC4.1 _ _ dg,?_⟩
   try simp +decide only[E,reduceIte,Nat.reduceAdd,Nat.reduceMul,qB,qC,L,Ua,Cg,EN,cd,f124,f125,f126,f127,f128,f129,f130,f131,f132,f133,f134,f135,f136,bt]
   refine⟨_,O4.1 _ _ _ dh,?_⟩
   try simp +decide only[E,reduceIte,Nat.reduceAdd,Nat.reduceMul,qB,qC,L,Ua,Cg,EN,cd,f124,f125,f126,f127,f128,f129,f130,f131,f132,f133,f134,f135,f136,bt]
   refine⟨_,aCJ.1 _ _ _ _ _ di,?_⟩
   try simp +decide only[E,reduceIte,Nat.reduceAdd,Nat.reduceMul,qB,qC,L,Ua,Cg,EN,cd,f124,f125,f126,f127,f128,f129,f130,f131,f132,f133,f134,f135,f136,bt]
   exact⟨.mk jF,Is.mk _⟩
  refine ab (an ?_)
  refine cu (λs=>s.t 0=vP 7059000 1 0/\s.t 2=vP 2 ((s1.h 2).1+1) 0/\s.t 5=vP 5 ((ao.h 5).1+1) 0/\s.t 10=vI bo/\s.h 2=((s1.h 2).1+1,HN)/\s.h 5=((ao.h 5).1+1,oB 126 [cS aa.1.aI7,cS aa.1.Top,cS aa.1.aIz.aI7,cI aa.1.aIz.aJP,cI aa.1.aIz.aJT,cI aa.1.aIz.aJX,.row 700024 ((ao.h 700024).1+1),cS bq,cI br,.row 7050000 ah,.row 7050001 ai,.row 7050002 aj,cI bn,cS bj.1.aJQ.Name,.row 200062 ((bz.h 200062).1+1),cI bj.1.aJQ.aJa,cI bj.1.aJm,cI bj.1.aJR.aK.aJA,cI bj.1.aJR.aK.aJd,.row 700062 ((bz.h 700062).1+1),cI bj.1.aJR.aJh,cI bj.1.aJR.aJY,cI aa.1.aJc,cB aa.1.aJZ])/\s.h 200062=((bz.h 200062).1+1,oW 260 4 M.aJN.en bj.1.aJQ.aI6)/\s.h 700024=((ao.h 700024).1+1,oW 345 2 M.aI5.en aa.1.aI1.aI1)/\s.h 700062=((bz.h 700062).1+1,oW 328 7 M.bC.en bj.1.aJR.aK.aJM)/\s.h 7050000=(ah,oW 117 3 M.aD.en aq)/\s.h 7050001=(ai,oW 471 2 M.aN.en ar)/\s.h 7050002=(aj,oW 5 1 enB av)/\s.h 7059000=(1,oB 304 [.old B0 (.sl (List.map enB p0.b)) (some u0),cI c9.1,cI c9.2.1])/\True) ?_
  rintro cp f147
  refine rn ?_
  refine iU ⟨_,Gho.trans (ghB 5 14 7050100 200062) (ghB 5 19 7050101 700062),mL2,jB,IntKind.i64.wrap (bo-1),bj.1.aJQ.Name,bj.1.aJQ.aJa,bj.1.aJm,bj.1.aJR.aK.aJA,bj.1.aJR.aK.aJd,bj.1.aJR.aJh,bj.1.aJR.aJY,c9.1,c9.2.1,bj.1.aJQ.aI6,bj.1.aJR.aK.aJM,(cp.h 7050100).1+1,(cp.h 7050101).1+1,?_,?_,?_,?_,?_,?_,?_,?_,?_,?_,?_,?_,?_,h⟩
  all_goals simp +decide only[F,reduceIte,Nat.reduceAdd,qB,qC,EN, *,-h]
 replace h:=bY bt h
 refine cf (xt (Gn (Gg (Lk (an (sq (sq ?_)))))))
 obtain⟨ca,dj,h⟩:=bind_some h
 refine rn1 (c92.1 _ _ _ dj) ?_
 refine an ?_
 refine cu (λs=>s.h 5=bz.h 5/\s.t 0=vP 7059000 1 0/\s.t 2=vP 2 ((s1.h 2).1+1) 0/\s.t 5=vP 5 ((ao.h 5).1+1) 0/\s.t 67=vB ca.2.2/\s.h 2=((s1.h 2).1+1,HN)/\s.h 700024=((ao.h 700024).1+1,oW 345 2 M.aI5.en aa.1.aI1.aI1)/\s.h 7050000=(ah,oW 117 3 M.aD.en aq)/\s.h 7050001=(ai,oW 471 2 M.aN.en ar)/\s.h 7050002=(aj,oW 5 1 enB av)/\s.h 7050100=(ae,oW 260 4 M.aJN.en ak)/\s.h 7050101=(af,oW 328 7 M.bC.en al)/\s.h 7059000=(1,oB 304 [.old B0 (.sl (List.map enB p0.b)) (some u0),cI ca.1,cI ca.2.1])/\True) ?_
 rintro fg ⟨f168,f163⟩
 replace f168:=f168.trans f129
 rcases C1 ca.2.2 with cg | cg
 ·replace h:=bY cg h;refine cf (sk (an (sq ?_)));obtain⟨cj,dk,h⟩:=bind_some h;refine rn1 (O4.1 _ _ _ dk) ?_;refine an (sq ?_);refine cu (λs=>s.t 0=vP 7059000 1 0/\s.t 2=vP 2 ((s1.h 2).1+1) 0/\s.t 5=vP 5 ((ao.h 5).1+1) 0/\s.h 2=((s1.h 2).1+1,HN)/\s.h 5=((ao.h 5).1+1,oB 126 [cS aa.1.aI7,cS aa.1.Top,cS aa.1.aIz.aI7,cI aa.1.aIz.aJP,cI aa.1.aIz.aJT,cI aa.1.aIz.aJX,.row 700024 ((ao.h 700024).1+1),cS bq,cI br,.row 7050000 ah,.row 7050001 ai,.row 7050002 aj,cI bn,cS ay,.row 7050100 ae,cI az,cI ba,cI bd,cI bf,.row 7050101 af,cI bg,cI bh,cI cj.2.2,cB aa.1.aJZ])/\s.h 700024=((ao.h 700024).1+1,oW 345 2 M.aI5.en aa.1.aI1.aI1)/\s.h 7050000=(ah,oW 117 3 M.aD.en aq)/\s.h 7050001=(ai,oW 471 2 M.aN.en ar)/\s.h 7050002=(aj,oW 5 1 enB av)/\s.h 7050100=(ae,oW 260 4 M.aJN.en ak)/\s.h 7050101=(af,oW 328 7 M.bC.en al)/\s.h 7059000=(1,oB 304 [.old B0 (.sl (List.map enB p0.b)) (some u0),cI cj.1,cI cj.2.1])/\True) ?_;rintro fh f214;obtain⟨fj,dm,h⟩:=bind_some h;refine rn1 (c92.1 _ _ _ dm) ?_;refine an (sq (rn ?_));refine an (rt ?_);cases h;simp[JO,Ret,TB,EN, *]
 replace h:=bZ cg h
 refine ct (sq ?_)
 obtain⟨cc,dn,h⟩:=bind_some h
 refine rn1 (O4.1 _ _ _ dn) ?_
 refine an ?_
 refine cu (λs=>s.t 0=vP 7059000 1 0/\s.t 2=vP 2 ((s1.h 2).1+1) 0/\s.t 5=vP 5 ((ao.h 5).1+1) 0/\s.h 2=((s1.h 2).1+1,HN)/\s.h 5=((ao.h 5).1+1,oB 126 [cS aa.1.aI7,cS aa.1.Top,cS aa.1.aIz.aI7,cI aa.1.aIz.aJP,cI aa.1.aIz.aJT,cI (IntKind.i64.wrap (1+cc.2.2)),.row 700024 ((ao.h 700024).1+1),cS bq,cI br,.row 7050000 ah,.row 7050001 ai,.row 7050002 aj,cI bn,cS ay,.row 7050100 ae,cI az,cI ba,cI bd,cI bf,.row 7050101 af,cI bg,cI bh,cI aa.1.aJc,cB aa.1.aJZ])/\s.h 700024=((ao.h 700024).1+1,oW 345 2 M.aI5.en aa.1.aI1.aI1)/\s.h 7050000=(ah,oW 117 3 M.aD.en aq)/\s.h 7050001=(ai,oW 471 2 M.aN.en ar)/\s.h 7050002=(aj,oW 5 1 enB av)/\s.h 7050100=(ae,oW 260 4 M.aJN.en ak)/\s.h 7050101=(af,oW 328 7 M.bC.en al)/\s.h 7059000=(1,oB 304 [.old B0 (.sl (List.map enB p0.b)) (some u0),cI cc.1,cI cc.2.1])/\True) ?_
 rintro cq f180
 obtain⟨dq,dr,h⟩:=bind_some h
 refine rn1 (aCE.1 _ _ _ dr) ?_
 refine an (sq ?_)
 obtain⟨ck,du,h⟩:=bind_some h
 refine rn1 (O4.1 _ _ _ du) ?_
 refine an (sq ?_)
 refine cu (λs=>s.t 0=vP 7059000 1 0/\s.t 2=vP 2 ((s1.h 2).1+1) 0/\s.t 5=vP 5 ((ao.h 5).1+1) 0/\s.h 2=((s1.h 2).1+1,HN)/\s.h 5=((ao.h 5).1+1,oB 126 [cS aa.1.aI7,cS aa.1.Top,cS aa.1.aIz.aI7,cI aa.1.aIz.aJP,cI aa.1.aIz.aJT,cI (IntKind.i64.wrap (1+cc.2.2)),.row 100079 ((cq.h 100079).1+1),cS bq,cI br,.row 7050000 ah,.row 7050001 ai,.row 7050002 aj,cI bn,cS ay,.row 7050100 ae,cI az,cI ba,cI bd,cI bf,.row 7050101 af,cI bg,cI bh,cI ck.2.2,cB aa.1.aJZ])/\s.h 100079=((cq.h 100079).1+1,oW 345 2 M.aI5.en dq.1.aI1)/\s.h 7050000=(ah,oW 117 3 M.aD.en aq)/\s.h 7050001=(ai,oW 471 2 M.aN.en ar)/\s.h 7050002=(aj,oW 5 1 enB av)/\s.h 7050100=(ae,oW 260 4 M.aJN.en ak)/\s.h 7050101=(af,oW 328 7 M.bC.en al)/\s.h 7059000=(1,oB 304 [.old B0 (.sl (List.map enB p0.b)) (some u0),cI ck.1,cI ck.2.1])/\True) ?_
 rintro fk f197
 obtain⟨fm,dw,h⟩:=bind_some h
 refine rn1 (c92.1 _ _ _ dw) ?_
 refine an (sq (rn ?_))
 refine an (rt ?_)
 cases h
 simp[JO,Ret,TB,EN, *]⟩
instance:bE 602 (∀p0 r (h:BT p0=some r),Sc 602 [(false,[.ptr [.sl (List.map enB p0.b),.int .i64 p0.i,.int .i64 p0.h]])] [(false,[.edit (.lend 304 [.int .i64 r.1,.int .i64 r.2.1])]),(true,M.bR.rs r.2.2)]):=⟨λp0 r h=>by
 unfold BT at h
 simp only[EN]
 refine sgB 22 [.cell 2 114] Tryz.func602 λbase wd B0 u0 hw0=> ?_
 refine dR (J:=λs=>s.t 0=vP 7059000 1 0/\s.h 7059000=(1,oB 304 [.old B0 (.sl (List.map enB p0.b)) (some u0),cI p0.i,cI p0.h])/\True) ?_ ?_
 ·and_intros<;>(try simp only[LN,List.map_cons,List.map_nil])<;>rfl
 rintro s1 f2
 have i1:=E5 [.b 3 2 7050000 117 3,.b 3 3 7050001 471 2,.b 3 4 7050002 5 1] λm s=>∃v4:Int,∃ao:ByteArray,∃aq:Int,∃ar:Int,∃aa:Int,∃ae:Int,∃af:List M.aD,∃ah:List M.aN,∃ai:List Int,∃aj:Nat,∃ak:Nat,∃al:Nat,(s.t 0=vP 7059000 1 0/\s.t 2=vP 2 ((s1.h 2).1+1) 0/\s.t 3=vP 3 ((s1.h 3).1+1) 0/\s.t 4=vI v4/\s.h 2=((s1.h 2).1+1,aBs)/\s.h 3=((s1.h 3).1+1,oB 114 [cS ao,cI aq,.row 7050000 aj,.row 7050001 ak,.row 7050002 al,cI ar])/\s.h 7050000=(aj,oW 117 3 M.aD.en af)/\s.h 7050001=(ak,oW 471 2 M.aN.en ah)/\s.h 7050002=(al,oW 5 1 enB ai)/\s.h 7059000=(1,oB 304 [.old B0 (.sl (List.map enB p0.b)) (some u0),cI aa,cI ae]))/\rV p0 m v4 ao aq ar aa ae af ah ai=some r
 have e1:=@rV.eq_2
 exact sgX⟩
instance:bE 604 (∀p0 r (h:Cb p0=some r),Sc 604 [(false,[.ptr [.sl (List.map enB p0.b),.int .i64 p0.i,.int .i64 p0.h]])] [(false,[.edit (.lend 304 [.int .i64 r.1,.int .i64 r.2.1])]),(true,M.aG.rs r.2.2.1),(true,M.aJC.rs r.2.2.2)]):=⟨λp0 r h=>by
 unfold Cb at h
 simp only[EN]
 refine sgB 89 [.cell 2 124,.cell 3 205] Tryz.func604 λbase wd B0 u0 hw0=> ?_
 refine dR (J:=λs=>s.t 0=vP 7059000 1 0/\s.h 7059000=(1,oB 304 [.old B0 (.sl (List.map enB p0.b)) (some u0),cI p0.i,cI p0.h])/\True) ?_ ?_
 ·and_intros<;>(try simp only[LN,List.map_cons,List.map_nil])<;>rfl
 rintro s1 f2
 have i1:=λ(s6:St)=>E5 [.b 5 1 7050000 260 4,.b 5 6 7050001 328 7,.b 4 1 7050002 260 4,.b 4 3 7050003 325 2,.b 4 4 7050004 328 7] λm s=>∃v7:Int,∃aw:ByteArray,∃ax:Int,∃ay:Int,∃az:Int,∃ba:Int,∃bd:Int,∃bf:Int,∃aa:Int,∃ae:Int,∃bg:ByteArray,∃bh:Int,∃af:List M.aJN,∃ah:List M.bC,∃ai:List M.aJN,∃aj:List M.aP,∃ak:List M.bC,∃al:Nat,∃ao:Nat,∃aq:Nat,∃ar:Nat,∃av:Nat,(s.t 0=vP 7059000 1 0/\s.t 2=vP 2 ((s1.h 2).1+1) 0/\s.t 3=vP 3 ((s1.h 3).1+1) 0/\s.t 4=vP 4 ((s1.h 4).1+1) 0/\s.t 5=vP 5 ((s6.h 5).1+1) 0/\s.t 7=vI v7/\s.h 2=((s1.h 2).1+1,aBu)/\s.h 3=((s1.h 3).1+1,Yq)/\s.h 4=((s1.h 4).1+1,oB 205 [cS bg,.row 7050002 al,cI bh,.row 7050003 ao,.row 7050004 aq])/\s.h 5=((s6.h 5).1+1,oB 124 [cS aw,.row 7050000 ar,cI ax,cI ay,cI az,cI ba,.row 7050001 av,cI bd,cI bf])/\s.h 7050000=(ar,oW 260 4 M.aJN.en af)/\s.h 7050001=(av,oW 328 7 M.bC.en ah)/\s.h 7050002=(al,oW 260 4 M.aJN.en ai)/\s.h 7050003=(ao,oW 325 2 M.aP.en aj)/\s.h 7050004=(aq,oW 328 7 M.bC.en ak)/\s.h 7059000=(1,oB 304 [.old B0 (.sl (List.map enB p0.b)) (some u0),cI aa,cI ae]))/\fM p0 m v7 aw ax ay az ba bd bf aa ae bg bh af ah ai aj ak=some r
 have e1:=@fM.eq_2
 exact sgX⟩
instance:bE 550 (∀p0 r (h:CI p0=some r),Sc 550 [(false,[.ptr [.sl (List.map enB p0.b),.int .i64 p0.i,.int .i64 p0.h]])] [(false,[.edit (.lend 304 [.int .i64 r.1,.int .i64 r.2.1])]),(true,M.aG.rs r.2.2)]):=⟨λp0 r h=>by
 unfold CI at h
 simp only[EN]
 refine sgB 30 [.cell 2 124] Tryz.func550 λbase wd B0 u0 hw0=> ?_
 refine dR (J:=λs=>s.t 0=vP 7059000 1 0/\s.h 7059000=(1,oB 304 [.old B0 (.sl (List.map enB p0.b)) (some u0),cI p0.i,cI p0.h])/\True) ?_ ?_
 ·and_intros<;>(try simp only[LN,List.map_cons,List.map_nil])<;>rfl
 rintro s1 f2
 exact sgX⟩
