/-
  Helper text. No conditions.
-/
import Derived.Test.YtndidbigdalbnaaGreatNotesWspec8
set_option linter.all false
namespace Go.Proofs.YtndidbigdalbnaaGreat.gen
open Go Go.Sh Tryz
set_option maxRecDepth 20000
set_option maxHeartbeats 4000000
instance aBh:bU 158 (∀p0 r (h:pJ p0=some r),Sc 158 [aX (M.aKe.en p0)] [rB r]):=⟨λp0 r h=>by unfold pJ at h;exact sgo 50 [.tmp 2] func158⟩
instance:bU 160 (∀p0 r (h:dE p0=some r),Sc 160 [aX (M.aC.en p0)] [rB r]):=⟨λp0 r h=>by
 have i1:=inv λm s=>∃v3:Int,(s.t 1=vP 1 1 0/\s.t 3=vI v3/\s.h 1=(1,oX 26 (M.aC.en p0)))/\kX p0 m v3=some r
 have e1:=@kX.eq_2
 unfold dE at h
 exact sgo 48 [.tmp 2] func160⟩
instance aFC:bU 282 (∀p0 p1 p2 r (h:uP p0 p1 p2=some r),Sc 282 [aS p0,aS p1,aI p2] [(true,M.aKe.rs r.1),rB r.2]):=⟨λp0 p1 p2 r h=>by unfold uP at h;exact sgo 42 [.cell 6 75,.tmp 7] func282⟩
instance:bU 227 (∀p0 p1 p2 r (h:gC p0 p1 p2=some r),Sc 227 [aX (M.aE.en p0),aX (M.bK.en p1),aS p2] [(true,M.aKo.rs r)]):=⟨λp0 p1 p2 r h=>by unfold gC at h;exact sgo 44 [.cell 6 244] func227⟩
instance:bU 88 (∀p0 p1 r (h:Bu p0 p1=some r),Sc 88 [aX (M.aKc.en p0),aL M.fA.en p1] [(true,M.aKc.rs r.1),rW 3 1 enI r.2.1,rB r.2.2]):=⟨λp0 p1 r h=>by
 have i1:=He [.b 7 2 7050000 66 3,.b 7 3 7050001 248 2] λm s=>∃v9:Int,∃ai:ByteArray,∃aj:Int,∃ak:List Int,∃aa:List M.aD,∃ae:List M.aV,∃al:Nat,∃af:Nat,∃ah:Nat,(s.t 1=vL M.fA.en p1/\s.t 2=vP 2 1 0/\s.t 4=vP 4 1 0/\s.t 7=vP 7 1 0/\s.t 8=vR 100015 al/\s.t 9=vI v9/\s.h 2=(1,oX 56 (M.aKc.en p0))/\s.h 4=(1,WT)/\s.h 7=(1,oB 56 [cS ai,cI aj,.row 7050000 af,.row 7050001 ah])/\s.h 100015=(al,oW 3 1 enI ak)/\s.h 7050000=(af,oW 66 3 M.aD.en aa)/\s.h 7050001=(ah,oW 248 2 M.aV.en ae))/\yW p0 p1 m v9 ai aj ak aa ae=some r
 have e1:=@yW.eq_2
 unfold Bu at h
 exact sgo 54 [.cell 4 56,.tmp 5,.tmp 6] func88⟩
instance:bU 82 (∀p0 r (h:AR p0=some r),Sc 82 [aX (M.bJ.en p0)] [(true,M.aKc.rs r.1),rI r.2]):=⟨λp0 r h=>by
 have i1:=λ(x3:((List (List Int))×Int))=>He [.b 4 2 7050000 66 3,.b 4 3 7050001 248 2] λm s=>∃v7:Int,∃ai:ByteArray,∃aj:Int,∃aa:List M.aD,∃ae:List M.aV,∃af:Nat,∃ah:Nat,(s.t 2=vP 2 1 0/\s.t 4=vP 4 1 0/\s.t 5=vR 100019 1/\s.t 7=vI v7/\s.h 2=(1,WT)/\s.h 4=(1,oB 56 [cS ai,cI aj,.row 7050000 af,.row 7050001 ah])/\s.h 100019=(1,oW 22 1 (enL enB) x3.1)/\s.h 7050000=(af,oW 66 3 M.aD.en aa)/\s.h 7050001=(ah,oW 248 2 M.aV.en ae))/\uE x3 m v7 ai aj aa ae=some r
 have e1:=@uE.eq_2
 unfold AR at h
 exact sgo 51 [.cell 2 56,.tmp 3] func82⟩
theorem aHj(j C:M.aKe)(r:(M.aKe×Bool))(h:rG j C=some r)(h2:r.2=false):lE prog 92 [(true,M.aKe.en j),(true,M.aKe.en C)] [(true,[.ro (.str r.1.aKl),.ro (.str r.1.Top),.ro (.str r.1.aKd.aKl),.ro (.int .i64 r.1.aKd.aLB),.ro (.int .i64 r.1.aKd.aLH),.ro (.int .i64 r.1.aKd.aLL),.own 262 2 (List.map M.aKv.en r.1.aKi.aKi),.ro (.str r.1.bJ.aK1.Name),.ro (.int .i64 r.1.bJ.aK1.aKb),.own 66 3 (List.map M.aD.en r.1.bJ.aK1.aKm),.own 248 2 (List.map M.aV.en r.1.bJ.aK1.aKz),.own 5 1 (List.map enB r.1.bJ.Log),.ro (.int .i64 r.1.bJ.aLF),.ro (.str r.1.aH.aK1.Name),.own 153 4 (List.map M.aKy.en r.1.aH.aK1.aKg),.ro (.int .i64 r.1.aH.aK1.aK7),.ro (.int .i64 r.1.aH.aLT),.ro (.int .i64 r.1.aH.aK3.aO.aKk),.ro (.int .i64 r.1.aH.aK3.aO.aLE),.own 182 7 (List.map M.cH.en r.1.aH.aK3.aO.aKw),.ro (.int .i64 r.1.aH.aK3.aLI),.ro (.int .i64 r.1.aH.aK3.aK8),.ro (.int .i64 r.1.aLC),.ro (.bool r.1.aK9)]),(false,[.ro (.bool r.2)])]:=by
 unfold rG at h
 simp only[M.aKe.en]
 refine Rf (N:=17) (vars:=[.cell 4 75,.tmp 5]) func92 rfl rfl rfl wL (Nat.le_of_ble_eq_true rfl) λbase wd=> ?_
 refine sq ?_
 refine xn ?_
 refine an (sq (sq ?_))
 obtain⟨x1,h2,h⟩:=aA h
 rcases gK (!x1)with b3|b3
 ·replace h:=bQ b3 h;refine xn1 (aBh.1 _ _ h2) ?_;refine an ?_;refine yL zM ?_;refine sq ?_;obtain⟨x4,h5,h⟩:=aA h;refine xn1 (c91.1 _ _ h5) ?_;refine an (rt ?_);cases h;simp[Ret,EN,Qz,M.aKv.en,M.aV.en,M.aKy.en,M.aD.en,M.cH.en,enB,b3]
 replace h:=bP b3 h
 obtain⟨x6,h7,h⟩:=aA h
 refine xn2 (aBh.1 _ _ h2) (aBh.1 _ _ h7) ?_
 refine an ?_
 rcases CP (!x6)with b8|b8
 ·replace h:=bP b8 h;refine Ay zM ?_;refine sk (an (sq ?_));refine xn ?_;refine an (rt ?_);cases h;exact absurd h2 wb
 replace h:=bQ b8 h
 refine yL zM ?_
 refine sq ?_
 obtain⟨x9,I,h⟩:=aA h
 refine xn1 (c91.1 _ _ I) ?_
 refine an (rt ?_)
 cases h
 simp[Ret,EN,Qz,M.aKv.en,M.aV.en,M.aKy.en,M.aD.en,M.cH.en,enB,b3,b8]
theorem aHd(j C:M.aKe)(r:(M.aKe×Bool))(h:rG j C=some r)(h2:r.2=true):lE prog 92 [(true,M.aKe.en j),(true,M.aKe.en C)] [(false,[.edit .pass])]:=by
 unfold rG at h
 simp only[M.aKe.en]
 refine aCV (N:=17) (vars:=[.cell 4 75,.tmp 5]) func92 rfl rfl rfl wL we λbase wd J=> ?_
 refine sq ?_
 apply AA
 ·simp+decide only[LP,E,reduceIte,Nat.reduceAdd,Nat.reduceMul,qB,qC,L,Qz,EN];exact Is.mk _
 refine an (sq (sq ?_))
 obtain⟨x1,h2,h⟩:=aA h
 rcases gK (!x1)with b3|b3
 ·replace h:=bQ b3 h
  apply AA
  ·simp+decide only[LP,E,reduceIte,Nat.reduceAdd,Nat.reduceMul,qB,qC,L,Qz,EN,b3]
   refine⟨_,aBh.1 _ _ h2,?_⟩
   try simp+decide only[LP,E,reduceIte,Nat.reduceAdd,Nat.reduceMul,qB,qC,L,Qz,EN,b3]
   exact Is.mk _
  refine an ?_
  refine yL (by simp+decide only[LP,F,reduceIte,Nat.reduceAdd,qB,qC,b3]) ?_
  refine sq ?_
  obtain⟨x4,h5,h⟩:=aA h
  apply AA
  ·simp+decide only[LP,E,reduceIte,Nat.reduceAdd,Nat.reduceMul,qB,qC,L,Qz,EN,b3]
   refine⟨_,c91.1 _ _ h5,?_⟩
   try simp+decide only[LP,E,reduceIte,Nat.reduceAdd,Nat.reduceMul,qB,qC,L,Qz,EN,b3]
   exact Is.mk _
  refine an (rt ?_)
  cases h
  exact absurd h2 wb
 replace h:=bP b3 h
 obtain⟨x6,h7,h⟩:=aA h
 apply AA
 ·simp+decide only[LP,E,reduceIte,Nat.reduceAdd,Nat.reduceMul,qB,qC,L,Qz,EN,b3]
  refine⟨_,aBh.1 _ _ h2,?_⟩
  try simp+decide only[LP,E,reduceIte,Nat.reduceAdd,Nat.reduceMul,qB,qC,L,Qz,EN,b3]
  refine⟨_,aBh.1 _ _ h7,?_⟩
  try simp+decide only[LP,E,reduceIte,Nat.reduceAdd,Nat.reduceMul,qB,qC,L,Qz,EN,b3]
  exact Is.mk _
 refine an ?_
 rcases CP (!x6)with b8|b8
 ·replace h:=bP b8 h;refine Ay (by simp+decide only[LP,F,reduceIte,Nat.reduceAdd,qB,qC,b3,b8]) ?_;refine sk (an (sq ?_));apply AA;(simp+decide only[LP,E,reduceIte,Nat.reduceAdd,Nat.reduceMul,qB,qC,L,Qz,EN,b3,b8];exact Is.mk _);refine an (rt ?_);cases h;simp[aFu,LP,M.aKe.en,Qz,b3,b8]
 replace h:=bQ b8 h
 refine yL (by simp+decide only[LP,F,reduceIte,Nat.reduceAdd,qB,qC,b3,b8]) ?_
 refine sq ?_
 obtain⟨x9,I,h⟩:=aA h
 apply AA
 ·simp+decide only[LP,E,reduceIte,Nat.reduceAdd,Nat.reduceMul,qB,qC,L,Qz,EN,b3,b8]
  refine⟨_,c91.1 _ _ I,?_⟩
  try simp+decide only[LP,E,reduceIte,Nat.reduceAdd,Nat.reduceMul,qB,qC,L,Qz,EN,b3,b8]
  exact Is.mk _
 refine an (rt ?_)
 cases h
 exact absurd h2 wb
instance aFR:bU 294 (∀p0 p1 p2 p3 r (h:lJ p0 p1 p2 p3=some r),Sc 294 [aX (M.aH.en p0),aX (M.bD.en p1),aS p2,aI p3] [(true,M.aH.rs r.1),rB r.2]):=⟨λp0 p1 p2 p3 r h=>by unfold lJ at h;exact sgo 53 [.cell 8 73,.tmp 9] func294⟩
instance:bU 358 (∀p0 r (h:FG p0=some r),Sc 358 [(false,[.ptr [.sl (List.map enB p0.b),.int .i64 p0.i,.int .i64 p0.h]])] [(false,[.edit (.lend 138 [.int .i64 r.1,.int .i64 r.2.1])]),(true,M.aKc.rs r.2.2)]):=⟨λp0 r h=>by
 unfold FG at h
 simp only[EN]
 refine sgB 34 [.cell 2 56] func358 λbase wd B0 u0 hw0=> ?_
 refine bY (J:=λs=>s.t 0=vP 7059000 1 0/\s.h 7059000=(1,oB 138 [.old B0 (.sl (List.map enB p0.b)) (some u0),cI p0.i,cI p0.h])/\True) ?_ ?_
 ·and_intros<;>(try simp only[LN,jJ,jK])<;>rfl
 rintro s1 f2
 exact sgX⟩
instance:bU 342 (∀p0 r (h:Df p0=some r),Sc 342 [(false,[.ptr [.sl (List.map enB p0.b),.int .i64 p0.i,.int .i64 p0.h]])] [(false,[.edit (.lend 138 [.int .i64 r.1,.int .i64 r.2.1])]),(true,M.aH.rs r.2.2.1),(true,M.aKt.rs r.2.2.2)]):=⟨λp0 r h=>by
 unfold Df at h
 simp only[EN]
 refine sgB 89 [.cell 2 73,.cell 3 125] func342 λbase wd B0 u0 hw0=> ?_
 refine bY (J:=λs=>s.t 0=vP 7059000 1 0/\s.h 7059000=(1,oB 138 [.old B0 (.sl (List.map enB p0.b)) (some u0),cI p0.i,cI p0.h])/\True) ?_ ?_
 ·and_intros<;>(try simp only[LN,jJ,jK])<;>rfl
 rintro s1 f2
 have i1:=λ(s6:St)=>He [.b 5 1 7050000 153 4,.b 5 6 7050001 182 7,.b 4 1 7050002 153 4,.b 4 3 7050003 179 2,.b 4 4 7050004 182 7] λm s=>∃v7:Int,∃aw:ByteArray,∃ax:Int,∃ay:Int,∃az:Int,∃ba:Int,∃bd:Int,∃bf:Int,∃aa:Int,∃ae:Int,∃bg:ByteArray,∃bh:Int,∃af:List M.aKy,∃ah:List M.cH,∃ai:List M.aKy,∃aj:List M.aQ,∃ak:List M.cH,∃al:Nat,∃ao:Nat,∃aq:Nat,∃ar:Nat,∃av:Nat,(s.t 0=vP 7059000 1 0/\s.t 2=vP 2 ((s1.h 2).1+1) 0/\s.t 3=vP 3 ((s1.h 3).1+1) 0/\s.t 4=vP 4 ((s1.h 4).1+1) 0/\s.t 5=vP 5 ((s6.h 5).1+1) 0/\s.t 7=vI v7/\s.h 2=((s1.h 2).1+1,aJP)/\s.h 3=((s1.h 3).1+1,aAF)/\s.h 4=((s1.h 4).1+1,oB 125 [cS bg,.row 7050002 al,cI bh,.row 7050003 ao,.row 7050004 aq])/\s.h 5=((s6.h 5).1+1,oB 73 [cS aw,.row 7050000 ar,cI ax,cI ay,cI az,cI ba,.row 7050001 av,cI bd,cI bf])/\s.h 7050000=(ar,oW 153 4 M.aKy.en af)/\s.h 7050001=(av,oW 182 7 M.cH.en ah)/\s.h 7050002=(al,oW 153 4 M.aKy.en ai)/\s.h 7050003=(ao,oW 179 2 M.aQ.en aj)/\s.h 7050004=(aq,oW 182 7 M.cH.en ak)/\s.h 7059000=(1,oB 138 [.old B0 (.sl (List.map enB p0.b)) (some u0),cI aa,cI ae]))/\gH p0 m v7 aw ax ay az ba bd bf aa ae bg bh af ah ai aj ak=some r
 have e1:=@gH.eq_2
 exact sgX⟩
theorem aJa(p0 r)(h:D5 p0=some r):Sc 174 [(false,[.ptr [.sl (List.map enB p0.b),.int .i64 p0.i,.int .i64 p0.h]])] [(false,[.edit (.lend 138 [.int .i64 r.1,.int .i64 r.2.1])]),(true,M.aKt.rs r.2.2)]:=by
 unfold D5 at h
 simp only[EN]
 refine sgB 52 [.cell 2 125] func174 λbase wd U u0 hw0=> ?_
 refine bY (J:=λs=>s.t 0=vP 7059000 1 0/\s.h 7059000=(1,oB 138 [.old U (.sl (List.map enB p0.b)) (some u0),cI p0.i,cI p0.h])/\True) ?_ ?_
 ·and_intros<;>(try simp only[LN,jJ,jK])<;>rfl
 rintro s1 f2
 have i1:=λ(x4:(Int×Int×M.aKt)) (af:(Int×Int×Int)) (ah:St)=>He [.b 3 3 7050000 179 2] λm s=>∃I:Int,∃j:List M.aQ,∃C:Nat,(s.h 7059000=ah.h 7059000/\s.t 0=vP 7059000 1 0/\s.t 2=vP 2 ((s1.h 2).1+1) 0/\s.t 3=vP 3 ((s1.h 3).1+1) 0/\s.t 4=vI I/\s.h 2=((s1.h 2).1+1,aAF)/\s.h 3=((s1.h 3).1+1,oB 125 [cS x4.2.2.aD.Name,.row 200006 ((s1.h 200006).1+1),cI x4.2.2.aD.aK7,.row 7050000 C,.row 500006 ((s1.h 500006).1+1)])/\s.h 200006=((s1.h 200006).1+1,oW 153 4 M.aKy.en x4.2.2.aD.aKg)/\s.h 500006=((s1.h 500006).1+1,oW 182 7 M.cH.en x4.2.2.aK6)/\s.h 7050000=(C,oW 179 2 M.aQ.en j))/\zU x4 af m I j=some r
 have e1:=@zU.eq_2
 exact sgX
