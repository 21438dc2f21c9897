/-
  Helper text. No conditions.
-/
import Derived.Test.YtjlnkcoeghonfaaGreatRunningPagesWspec10
set_option linter.all false
namespace Go.Proofs.YtjlnkcoeghonfaaGreat.gen
open Go Go.Sh Tryz
set_option maxRecDepth 20000
set_option maxHeartbeats 4000000
instance aBL:bK 207 (∀p0 r (h:rA p0=some r),Sc 207 [aX (M.Bucket.en p0)] [rB r]):=⟨λp0 r h=>by unfold rA at h;exact sgo 50 [.tmp 2] func207⟩
instance:bK 94 (∀p0 r (h:dD p0=some r),Sc 94 [aX (M.aC.en p0)] [rB r]):=⟨λp0 r h=>by
 have i1:=inv λm s=>∃v3:Int,(s.t 1=vP 1 1 0/\s.t 3=vI v3/\s.h 1=(1,oX 39 (M.aC.en p0)))/\iM p0 m v3=some r
 have e1:=@iM.eq_2
 unfold dD at h
 exact sgo 48 [.tmp 2] func94⟩
instance c19:bK 19 (∀p0 r (h:lL p0=some r),Sc 19 [aX (M.aD.en p0)] [rB r]):=⟨λp0 r h=>by
 have i1:=inv λm s=>∃v3:Int,(s.t 1=vP 1 1 0/\s.t 3=vI v3/\s.h 1=(1,oX 50 (M.aD.en p0)))/\oR p0 m v3=some r
 have e1:=@oR.eq_2
 have i2:=inv λm s=>∃v4:Int,(s.t 1=vP 1 1 0/\s.t 4=vI v4/\s.h 1=(1,oX 50 (M.aD.en p0)))/\gL p0 m v4=some r
 have e2:=@gL.eq_2
 unfold lL at h
 exact sgo 126 [.tmp 2] func19⟩
instance aFK:bK 502 (∀p0 p1 p2 r (h:xB p0 p1 p2=some r),Sc 502 [aS p0,aS p1,aI p2] [(true,M.Bucket.rs r.1),rB r.2]):=⟨λp0 p1 p2 r h=>by unfold xB at h;exact sgo 42 [.cell 6 84,.tmp 7] func502⟩
instance:bK 238 (∀p0 p1 r (h:iN p0 p1=some r),Sc 238 [aX (M.aC.en p0),aX (M.Bucket.en p1)] [(true,M.aC.rs r.1),rB r.2]):=⟨λp0 p1 r h=>by
 have i1:=λ(x1:M.aC)=>inv λm s=>∃v8:Int,(s.t 2=vP 2 1 0/\s.t 3=vP 3 1 0/\s.t 4=vP 4 1 0/\s.t 6=vP 6 1 0/\s.t 8=vI v8/\s.h 2=(1,oX 39 (M.aC.en p0))/\s.h 3=(1,oX 84 (M.Bucket.en p1))/\s.h 4=(1,oB 39 [.nil])/\s.h 6=(1,oB 39 [.row 100011 1])/\s.h 100011=(1,oW 84 24 M.Bucket.en x1.Buckets))/\nY p0 p1 x1 m v8=some r
 have e1:=@nY.eq_2
 unfold iN at h
 exact sgo 74 [.cell 4 39,.tmp 5] func238⟩
instance:bK 32 (∀p0 p1 p2 r (h:gJ p0 p1 p2=some r),Sc 32 [aX (M.aD.en p0),aX (M.bO.en p1),aS p2] [(true,M.aLb.rs r)]):=⟨λp0 p1 p2 r h=>by unfold gJ at h;exact sgo 44 [.cell 6 107] func32⟩
instance:bK 234 (∀p0 p1 r (h:Ca p0 p1=some r),Sc 234 [aX (M.aLS.en p0),aL M.gN.en p1] [(true,M.aLS.rs r.1),rW 3 1 enI r.2.1,rB r.2.2]):=⟨λp0 p1 r h=>by
 have i1:=G8 [.b 7 2 7050000 75 3,.b 7 3 7050001 382 2] λm s=>∃v9:Int,∃ai:ByteArray,∃aj:Int,∃ak:List Int,∃aa:List M.aE,∃ae:List M.aU,∃al:Nat,∃af:Nat,∃ah:Nat,(s.t 1=vL M.gN.en p1/\s.t 2=vP 2 1 0/\s.t 4=vP 4 1 0/\s.t 7=vP 7 1 0/\s.t 8=vR 100015 al/\s.t 9=vI v9/\s.h 2=(1,oX 70 (M.aLS.en p0))/\s.h 4=(1,WI)/\s.h 7=(1,oB 70 [cS ai,cI aj,.row 7050000 af,.row 7050001 ah])/\s.h 100015=(al,oW 3 1 enI ak)/\s.h 7050000=(af,oW 75 3 M.aE.en aa)/\s.h 7050001=(ah,oW 382 2 M.aU.en ae))/\Ah p0 p1 m v9 ai aj ak aa ae=some r
 have e1:=@Ah.eq_2
 unfold Ca at h
 exact sgo 54 [.cell 4 70,.tmp 5,.tmp 6] func234⟩
instance:bK 228 (∀p0 r (h:BD p0=some r),Sc 228 [aX (M.bP.en p0)] [(true,M.aLS.rs r.1),rI r.2]):=⟨λp0 r h=>by
 have i1:=λ(x3:((List (List Int))×Int))=>G8 [.b 4 2 7050000 75 3,.b 4 3 7050001 382 2] λm s=>∃v7:Int,∃ai:ByteArray,∃aj:Int,∃aa:List M.aE,∃ae:List M.aU,∃af:Nat,∃ah:Nat,(s.t 2=vP 2 1 0/\s.t 4=vP 4 1 0/\s.t 5=vR 100019 1/\s.t 7=vI v7/\s.h 2=(1,WI)/\s.h 4=(1,oB 70 [cS ai,cI aj,.row 7050000 af,.row 7050001 ah])/\s.h 100019=(1,oW 58 1 (enL enB) x3.1)/\s.h 7050000=(af,oW 75 3 M.aE.en aa)/\s.h 7050001=(ah,oW 382 2 M.aU.en ae))/\vM x3 m v7 ai aj aa ae=some r
 have e1:=@vM.eq_2
 unfold BD at h
 exact sgo 51 [.cell 2 70,.tmp 3] func228⟩
instance:bK 117 (∀p0 p1 r (h:Ax p0 p1=some r),Sc 117 [aX (M.Bucket.en p0),aI p1] [(true,M.aF.rs r.1),rB r.2]):=⟨λp0 p1 r h=>by unfold Ax at h;exact sgo 43 [.cell 4 207,.tmp 5] func117⟩
instance aFF:bK 121 (∀p0 p1 r (h:oI p0 p1=some r),Sc 121 [aX (M.bP.en p0),aL M.gN.en p1] [(true,M.bP.rs r.1),rB r.2]):=⟨λp0 p1 r h=>by unfold oI at h;exact sgo 64 [.cell 4 72,.tmp 5] func121⟩
theorem aEK(j C:M.Bucket)(r:(M.Bucket×Bool))(h:sA j C=some r)(h2:r.2=false):kU prog 237 [(true,M.Bucket.en j),(true,M.Bucket.en C)] [(true,[.ro (.str r.1.aLa),.ro (.str r.1.Top),.ro (.str r.1.aLU.aLa),.ro (.int .i64 r.1.aLU.aL0),.ro (.int .i64 r.1.aLU.aL6),.ro (.int .i64 r.1.aLU.aMA),.own 277 2 (List.map M.aLi.en r.1.aLW.aLW),.ro (.str r.1.bP.aLq.Name),.ro (.int .i64 r.1.bP.aLq.aLT),.own 75 3 (List.map M.aE.en r.1.bP.aLq.aLc),.own 382 2 (List.map M.aU.en r.1.bP.aLq.aLm),.own 5 1 (List.map enB r.1.bP.Log),.ro (.int .i64 r.1.bP.aL5),.ro (.str r.1.aG.aLq.Name),.own 320 4 (List.map M.aLo.en r.1.aG.aLq.aLV),.ro (.int .i64 r.1.aG.aLq.aLx),.ro (.int .i64 r.1.aG.aMG),.ro (.int .i64 r.1.aG.aLs.aN.aLZ),.ro (.int .i64 r.1.aG.aLs.aN.aL2),.own 269 7 (List.map M.bR.en r.1.aG.aLs.aN.aLl),.ro (.int .i64 r.1.aG.aLs.aL7),.ro (.int .i64 r.1.aG.aLs.aLw),.ro (.int .i64 r.1.aL1),.ro (.bool r.1.aLy)]),(false,[.ro (.bool r.2)])]:=by
 unfold sA at h
 simp only[M.Bucket.en]
 refine Rf (N:=17) (vars:=[.cell 4 84,.tmp 5]) func237 rfl rfl rfl wM (Nat.le_of_ble_eq_true rfl) λbase wd=> ?_
 refine sq ?_
 refine xn ?_
 refine an (sq (sq ?_))
 obtain⟨x1,h2,h⟩:=aA h
 rcases dX (!x1)with b3|b3
 ·replace h:=bN b3 h;refine xn1 (aBL.1 _ _ h2) ?_;refine an ?_;refine BA zM ?_;refine sq ?_;obtain⟨x4,h5,h⟩:=aA h;refine xn1 (aBM.1 _ _ h5) ?_;refine an (rt ?_);cases h;simp[Ret,EN,QB,M.aLi.en,M.aU.en,M.aLo.en,M.aE.en,M.bR.en,enB,b3]
 replace h:=bM b3 h
 obtain⟨x6,h7,h⟩:=aA h
 refine xn2 (aBL.1 _ _ h2) (aBL.1 _ _ h7) ?_
 refine an ?_
 rcases Dz (!x6)with b8|b8
 ·replace h:=bM b8 h;refine Co zM ?_;refine sk (an (sq ?_));refine xn ?_;refine an (rt ?_);cases h;exact absurd h2 we
 replace h:=bN b8 h
 refine BA zM ?_
 refine sq ?_
 obtain⟨x9,I,h⟩:=aA h
 refine xn1 (aBM.1 _ _ I) ?_
 refine an (rt ?_)
 cases h
 simp[Ret,EN,QB,M.aLi.en,M.aU.en,M.aLo.en,M.aE.en,M.bR.en,enB,b3,b8]
theorem aEB(j C:M.Bucket)(r:(M.Bucket×Bool))(h:sA j C=some r)(h2:r.2=true):kU prog 237 [(true,M.Bucket.en j),(true,M.Bucket.en C)] [(false,[.edit .pass])]:=by
 unfold sA at h
 simp only[M.Bucket.en]
 refine aCC (N:=17) (vars:=[.cell 4 84,.tmp 5]) func237 rfl rfl rfl wM wh λbase wd J=> ?_
 refine sq ?_
 apply Bk
 ·simp+decide only[LP,E,reduceIte,Nat.reduceAdd,Nat.reduceMul,qB,qC,L,QB,EN];exact Is.mk _
 refine an (sq (sq ?_))
 obtain⟨x1,h2,h⟩:=aA h
 rcases dX (!x1)with b3|b3
 ·replace h:=bN b3 h
  apply Bk
  ·simp+decide only[LP,E,reduceIte,Nat.reduceAdd,Nat.reduceMul,qB,qC,L,QB,EN,b3]
   refine⟨_,aBL.1 _ _ h2,?_⟩
   try simp+decide only[LP,E,reduceIte,Nat.reduceAdd,Nat.reduceMul,qB,qC,L,QB,EN,b3]
   exact Is.mk _
  refine an ?_
  refine BA (by simp+decide only[LP,F,reduceIte,Nat.reduceAdd,qB,qC,b3]) ?_
  refine sq ?_
  obtain⟨x4,h5,h⟩:=aA h
  apply Bk
  ·simp+decide only[LP,E,reduceIte,Nat.reduceAdd,Nat.reduceMul,qB,qC,L,QB,EN,b3]
   refine⟨_,aBM.1 _ _ h5,?_⟩
   try simp+decide only[LP,E,reduceIte,Nat.reduceAdd,Nat.reduceMul,qB,qC,L,QB,EN,b3]
   exact Is.mk _
  refine an (rt ?_)
  cases h
  exact absurd h2 we
 replace h:=bM b3 h
 obtain⟨x6,h7,h⟩:=aA h
 apply Bk
 ·simp+decide only[LP,E,reduceIte,Nat.reduceAdd,Nat.reduceMul,qB,qC,L,QB,EN,b3]
  refine⟨_,aBL.1 _ _ h2,?_⟩
  try simp+decide only[LP,E,reduceIte,Nat.reduceAdd,Nat.reduceMul,qB,qC,L,QB,EN,b3]
  refine⟨_,aBL.1 _ _ h7,?_⟩
  try simp+decide only[LP,E,reduceIte,Nat.reduceAdd,Nat.reduceMul,qB,qC,L,QB,EN,b3]
  exact Is.mk _
 refine an ?_
 rcases Dz (!x6)with b8|b8
 ·replace h:=bM b8 h;refine Co (by simp+decide only[LP,F,reduceIte,Nat.reduceAdd,qB,qC,b3,b8]) ?_;refine sk (an (sq ?_));apply Bk;(simp+decide only[LP,E,reduceIte,Nat.reduceAdd,Nat.reduceMul,qB,qC,L,QB,EN,b3,b8];exact Is.mk _);refine an (rt ?_);cases h;simp[aFi,LP,M.Bucket.en,QB,b3,b8]
 replace h:=bN b8 h
 refine BA (by simp+decide only[LP,F,reduceIte,Nat.reduceAdd,qB,qC,b3,b8]) ?_
 refine sq ?_
 obtain⟨x9,I,h⟩:=aA h
 apply Bk
 ·simp+decide only[LP,E,reduceIte,Nat.reduceAdd,Nat.reduceMul,qB,qC,L,QB,EN,b3,b8]
  refine⟨_,aBM.1 _ _ I,?_⟩
  try simp+decide only[LP,E,reduceIte,Nat.reduceAdd,Nat.reduceMul,qB,qC,L,QB,EN,b3,b8]
  exact Is.mk _
 refine an (rt ?_)
 cases h
 exact absurd h2 we
instance:bK 123 (∀p0 p1 r (h:A4 p0 p1=some r),Sc 123 [aX (M.Bucket.en p0),aX (M.bP.en p1)] [(true,M.Bucket.rs r.1),rB r.2]):=⟨λp0 p1 r h=>by
 unfold A4 at h
 simp only[EN]
 refine sgn 17 [.cell 4 84,.tmp 5] func123 λbase wd=> ?_
 refine sq (rn ?_)
 refine an (sq ?_)
 obtain⟨x1,h2,h⟩:=aA h
 refine rn1 (aBM.1 _ _ h2) ?_
 refine an (sq ?_)
 obtain⟨x3,h4,h⟩:=aA h
 refine rn1 (aFe.1 _ _ h4) ?_
 refine an (sq ?_)
 obtain⟨x5,h6,h⟩:=aA h
 rcases dX x5.2 with b7|b7
 ·replace h:=bN b7 h;refine rn1 (aEB _ _ _ h6 b7) ?_;exact an (rt zR)
 replace h:=bM b7 h
 refine rn1 (aEK _ _ _ h6 b7) ?_
 exact an (rt zR)⟩
instance aFW:bK 125 (∀p0 p1 p2 p3 r (h:lW p0 p1 p2 p3=some r),Sc 125 [aX (M.aG.en p0),aX (M.bD.en p1),aS p2,aI p3] [(true,M.aG.rs r.1),rB r.2]):=⟨λp0 p1 p2 p3 r h=>by unfold lW at h;exact sgo 53 [.cell 8 82,.tmp 9] func125⟩
instance:bK 126 (∀p0 p1 r (h:uP p0 p1=some r),Sc 126 [aX (M.Bucket.en p0),aX (M.aG.en p1)] [(true,M.Bucket.rs r.1),rB r.2]):=⟨λp0 p1 r h=>by
 unfold uP at h
 simp only[EN]
 refine sgn 17 [.cell 4 84,.tmp 5] func126 λbase wd=> ?_
 refine sq (rn ?_)
 refine an (sq ?_)
 obtain⟨x1,h2,h⟩:=aA h
 refine rn1 (aBM.1 _ _ h2) ?_
 refine an (sq ?_)
 obtain⟨x3,h4,h⟩:=aA h
 refine rn1 (aFH.1 _ _ h4) ?_
 refine an (sq ?_)
 obtain⟨x5,h6,h⟩:=aA h
 rcases dX x5.2 with b7|b7
 ·replace h:=bN b7 h;refine rn1 (aEB _ _ _ h6 b7) ?_;exact an (rt zR)
 replace h:=bM b7 h
 refine rn1 (aEK _ _ _ h6 b7) ?_
 exact an (rt zR)⟩
instance:bK 599 (∀p0 r (h:EF p0=some r),Sc 599 [(false,[.ptr [.sl (List.map enB p0.b),.int .i64 p0.i,.int .i64 p0.h]])] [(false,[.edit (.lend 256 [.int .i64 r.1,.int .i64 r.2.1])]),(true,M.aLS.rs r.2.2)]):=⟨λp0 r h=>by
 unfold EF at h
 simp only[EN]
 refine sgB 34 [.cell 2 70] func599 λbase wd B0 u0 hw0=> ?_
 refine cY (J:=λs=>s.t 0=vP 7059000 1 0/\s.h 7059000=(1,oB 256 [.old B0 (.sl (List.map enB p0.b)) (some u0),cI p0.i,cI p0.h])/\True) ?_ ?_
 ·and_intros<;>(try simp only[LN,jI,jJ])<;>rfl
 rintro s1 f2
 exact sgX⟩
instance:bK 572 (∀p0 r (h:D1 p0=some r),Sc 572 [(false,[.ptr [.sl (List.map enB p0.b),.int .i64 p0.i,.int .i64 p0.h]])] [(false,[.edit (.lend 256 [.int .i64 r.1,.int .i64 r.2.1])]),(true,M.aG.rs r.2.2.1),(true,M.aLj.rs r.2.2.2)]):=⟨λp0 r h=>by
 unfold D1 at h
 simp only[EN]
 refine sgB 89 [.cell 2 82,.cell 3 156] func572 λbase wd B0 u0 hw0=> ?_
 refine cY (J:=λs=>s.t 0=vP 7059000 1 0/\s.h 7059000=(1,oB 256 [.old B0 (.sl (List.map enB p0.b)) (some u0),cI p0.i,cI p0.h])/\True) ?_ ?_
 ·and_intros<;>(try simp only[LN,jI,jJ])<;>rfl
 rintro s1 f2
 have i1:=λ(s6:St)=>G8 [.b 5 1 7050000 320 4,.b 5 6 7050001 269 7,.b 4 1 7050002 320 4,.b 4 3 7050003 266 2,.b 4 4 7050004 269 7] λm s=>∃v7:Int,∃aw:ByteArray,∃ax:Int,∃ay:Int,∃az:Int,∃ba:Int,∃bd:Int,∃bf:Int,∃aa:Int,∃ae:Int,∃bg:ByteArray,∃bh:Int,∃af:List M.aLo,∃ah:List M.bR,∃ai:List M.aLo,∃aj:List M.aQ,∃ak:List M.bR,∃al:Nat,∃ao:Nat,∃aq:Nat,∃ar:Nat,∃av:Nat,(s.t 0=vP 7059000 1 0/\s.t 2=vP 2 ((s1.h 2).1+1) 0/\s.t 3=vP 3 ((s1.h 3).1+1) 0/\s.t 4=vP 4 ((s1.h 4).1+1) 0/\s.t 5=vP 5 ((s6.h 5).1+1) 0/\s.t 7=vI v7/\s.h 2=((s1.h 2).1+1,aF5)/\s.h 3=((s1.h 3).1+1,Z5)/\s.h 4=((s1.h 4).1+1,oB 156 [cS bg,.row 7050002 al,cI bh,.row 7050003 ao,.row 7050004 aq])/\s.h 5=((s6.h 5).1+1,oB 82 [cS aw,.row 7050000 ar,cI ax,cI ay,cI az,cI ba,.row 7050001 av,cI bd,cI bf])/\s.h 7050000=(ar,oW 320 4 M.aLo.en af)/\s.h 7050001=(av,oW 269 7 M.bR.en ah)/\s.h 7050002=(al,oW 320 4 M.aLo.en ai)/\s.h 7050003=(ao,oW 266 2 M.aQ.en aj)/\s.h 7050004=(aq,oW 269 7 M.bR.en ak)/\s.h 7059000=(1,oB 256 [.old B0 (.sl (List.map enB p0.b)) (some u0),cI aa,cI ae]))/\gR p0 m v7 aw ax ay az ba bd bf aa ae bg bh af ah ai aj ak=some r
 have e1:=@gR.eq_2
 exact sgX⟩
instance:bK 514 (∀p0 r (h:EB p0=some r),Sc 514 [(false,[.ptr [.sl (List.map enB p0.b),.int .i64 p0.i,.int .i64 p0.h]])] [(false,[.edit (.lend 256 [.int .i64 r.1,.int .i64 r.2.1])]),(true,M.aG.rs r.2.2)]):=⟨λp0 r h=>by
 unfold EB at h
 simp only[EN]
 refine sgB 30 [.cell 2 82] func514 λbase wd B0 u0 hw0=> ?_
 refine cY (J:=λs=>s.t 0=vP 7059000 1 0/\s.h 7059000=(1,oB 256 [.old B0 (.sl (List.map enB p0.b)) (some u0),cI p0.i,cI p0.h])/\True) ?_ ?_
 ·and_intros<;>(try simp only[LN,jI,jJ])<;>rfl
 rintro s1 f2
 exact sgX⟩
theorem aLR(p0 r)(h:Dv p0=some r):Sc 309 [(false,[.ptr [.sl (List.map enB p0.b),.int .i64 p0.i,.int .i64 p0.h]])] [(false,[.edit (.lend 256 [.int .i64 r.1,.int .i64 r.2.1])]),(true,M.aLj.rs r.2.2)]:=by
 unfold Dv at h
 simp only[EN]
 refine sgB 52 [.cell 2 156] func309 λbase wd U u0 hw0=> ?_
 refine cY (J:=λs=>s.t 0=vP 7059000 1 0/\s.h 7059000=(1,oB 256 [.old U (.sl (List.map enB p0.b)) (some u0),cI p0.i,cI p0.h])/\True) ?_ ?_
 ·and_intros<;>(try simp only[LN,jI,jJ])<;>rfl
 rintro s1 f2
 have i1:=λ(x4:(Int×Int×M.aLj)) (af:(Int×Int×Int)) (ah:St)=>G8 [.b 3 3 7050000 266 2] λm s=>∃I:Int,∃j:List M.aQ,∃C:Nat,(s.h 7059000=ah.h 7059000/\s.t 0=vP 7059000 1 0/\s.t 2=vP 2 ((s1.h 2).1+1) 0/\s.t 3=vP 3 ((s1.h 3).1+1) 0/\s.t 4=vI I/\s.h 2=((s1.h 2).1+1,Z5)/\s.h 3=((s1.h 3).1+1,oB 156 [cS x4.2.2.aE.Name,.row 200006 ((s1.h 200006).1+1),cI x4.2.2.aE.aLx,.row 7050000 C,.row 500006 ((s1.h 500006).1+1)])/\s.h 200006=((s1.h 200006).1+1,oW 320 4 M.aLo.en x4.2.2.aE.aLV)/\s.h 500006=((s1.h 500006).1+1,oW 269 7 M.bR.en x4.2.2.aLv)/\s.h 7050000=(C,oW 266 2 M.aQ.en j))/\AH x4 af m I j=some r
 have e1:=@AH.eq_2
 exact sgX
