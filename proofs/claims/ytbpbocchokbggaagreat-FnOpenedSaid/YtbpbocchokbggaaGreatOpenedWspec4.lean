/-
  Helper text. No conditions.
-/
import Derived.Test.YtbpbocchokbggaaGreatOpenedWspec2
import Derived.Test.YtbpbocchokbggaaGreatOpenedWspec3
set_option linter.all false
namespace Go.Proofs.YtbpbocchokbggaaGreat.gen
open Go Go.Sh
set_option maxRecDepth 20000
set_option maxHeartbeats 4000000
instance:bK 170 (∀p0 r (h:Ap p0=some r),Sc 170 [aX (M.bP.en p0)] [(true,M.bP.rs r)]):=⟨λp0 r h=>by unfold Ap at h;exact sgo 13 [.cell 2 114] Tryz.func170⟩
instance:bK 124 (∀p0 r (h:sC p0=some r),Sc 124 [aX (M.aHO.en p0)] [rB r]):=⟨λp0 r h=>by
 have i1:=inv λm s=>∃v3:Int,(s.t 1=vP 1 1 0/\s.t 3=vI v3/\s.h 1=(1,oX 205 (M.aHO.en p0)))/\hY p0 m v3=some r
 have e1:=@hY.eq_2
 have i2:=inv λm s=>∃v4:Int,(s.t 1=vP 1 1 0/\s.t 4=vI v4/\s.h 1=(1,oX 205 (M.aHO.en p0)))/\kT p0 m v4=some r
 have e2:=@kT.eq_2
 unfold sC at h
 exact sgo 79 [.tmp 2] Tryz.func124⟩
instance:bK 512 (∀p0 p1 r (h:Bz p0 p1=some r),Sc 512 [aX (M.aC.en p0),aS p1] [rW 260 4 M.aHV.en r]):=⟨λp0 p1 r h=>by
 have i1:=ES [.t 5 7050000 260 4] λm s=>∃v6:Int,∃aa:List M.aHV,∃ae:Nat,(s.t 1=vS p1/\s.t 2=vP 2 1 0/\s.t 5=vR 7050000 ae/\s.t 6=vI v6/\s.h 2=(1,oX 117 (M.aC.en p0))/\s.h 7050000=(ae,oW 260 4 M.aHV.en aa))/\mO p0 p1 m v6 aa=some r
 have e1:=@mO.eq_2
 have i2:=λ(v6:Int) (aa:List M.aHV) (ah:M.aHV) (ai:Int->Option (List M.aHV)) (ae:Nat)=>inv λm s=>∃af:Int,(s.t 1=vS p1/\s.t 2=vP 2 1 0/\s.t 5=vR 7050000 ae/\s.t 6=vI v6/\s.t 9=vI af/\s.h 2=(1,oX 117 (M.aC.en p0))/\s.h 7050000=(ae,oW 260 4 M.aHV.en aa))/\pN p1 aa ah ai m af=some r
 have e2:=@pN.eq_2
 unfold Bz at h
 exact sgo 72 [.tmp 4] Tryz.func512⟩
instance:bK 393 (∀p0 r (h:oY p0=some r),Sc 393 [aX (M.aE.en p0)] [rB r]):=⟨λp0 r h=>by unfold oY at h;exact sgo 23 [.tmp 2] Tryz.func393⟩
instance:bK 488 (∀p0 r (h:wM p0=some r),Sc 488 [aX (M.aC.en p0)] [rI r]):=⟨λp0 r h=>by
 have i1:=inv λm s=>∃v3:Int,∃v4:Int,(s.t 1=vP 1 1 0/\s.t 3=vI v3/\s.t 4=vI v4/\s.h 1=(1,oX 117 (M.aC.en p0)))/\mB p0 m v3 v4=some r
 have e1:=@mB.eq_2
 unfold wM at h
 exact sgo 32 [.tmp 2] Tryz.func488⟩
instance:bK 239 (∀p0 p1 r (h:AW p0 p1=some r),Sc 239 [(false,[.ptr [.sl (List.map enB p0.b),.int .i64 p0.i,.int .i64 p0.h]]),aI p1] [(false,[.edit (.lend 304 [.int .i64 r.1,.int .i64 r.2.1])]),(true,M.Instr.rs r.2.2)]):=⟨λp0 p1 r h=>by
 unfold AW at h
 simp only[EN]
 refine sgB 59 [.cell 4 308] Tryz.func239 λbase wd B0 u0 hw0=> ?_
 refine eE (J:=λs=>s.t 0=vP 7059000 1 0/\s.t 1=vI p1/\s.h 7059000=(1,oB 304 [.old B0 (.sl (List.map enB p0.b)) (some u0),cI p0.i,cI p0.h])/\True) ?_ ?_
 ·and_intros<;>(try simp only[LN,List.map_cons,List.map_nil])<;>rfl
 rintro s1 f2
 exact sgX⟩
instance:bK 251 (∀p0 r (h:pB p0=some r),Sc 251 [aI p0] [(true,M.aJ.rs r.1),rB r.2]):=⟨λp0 r h=>by unfold pB at h;exact sgo 12 [.cell 2 120,.tmp 3] Tryz.func251⟩
instance:bK 256 (∀p0 r (h:yW p0=some r),Sc 256 [aL M.Instr.en p0] [(true,M.aHJ.rs r)]):=⟨λp0 r h=>by unfold yW at h;exact sgo 15 [.cell 2 65] Tryz.func256⟩
instance:bK 502 (∀p0 p1 r (h:kB p0 p1=some r),Sc 502 [aI p0,aS p1] [rI r]):=⟨λp0 p1 r h=>by unfold kB at h;exact sgo 11 [.tmp 4] Tryz.func502⟩
instance aAZ:bK 546 (∀p0 r (h:lD p0=some r),Sc 546 [(false,[.ptr [.sl (List.map enB p0.b),.int .i64 p0.i,.int .i64 p0.h]])] [(false,[.edit (.lend 304 [.int .i64 r.1,.int .i64 r.2.1])]),(true,M.aD.rs r.2.2)]):=⟨λp0 r h=>by
 unfold lD at h
 simp only[EN]
 refine sgB 22 [.cell 2 129] Tryz.func546 λbase wd B0 u0 hw0=> ?_
 refine eE (J:=λs=>s.t 0=vP 7059000 1 0/\s.h 7059000=(1,oB 304 [.old B0 (.sl (List.map enB p0.b)) (some u0),cI p0.i,cI p0.h])/\True) ?_ ?_
 ·and_intros<;>(try simp only[LN,List.map_cons,List.map_nil])<;>rfl
 rintro s1 f2
 have i1:=ES [.b 3 0 7050000 262 2] λm s=>∃v4:Int,∃aa:Int,∃ae:Int,∃af:List M.Field,∃ah:Nat,(s.t 0=vP 7059000 1 0/\s.t 2=vP 2 ((s1.h 2).1+1) 0/\s.t 3=vP 3 ((s1.h 3).1+1) 0/\s.t 4=vI v4/\s.h 2=((s1.h 2).1+1,oB 129 [.nil])/\s.h 3=((s1.h 3).1+1,oB 129 [.row 7050000 ah])/\s.h 7050000=(ah,oW 262 2 M.Field.en af)/\s.h 7059000=(1,oB 304 [.old B0 (.sl (List.map enB p0.b)) (some u0),cI aa,cI ae]))/\oE p0 m v4 aa ae af=some r
 have e1:=@oE.eq_2
 exact sgX⟩
instance:bK 308 (∀p0 r (h:Bq p0=some r),Sc 308 [aL enB p0] [rW 74 1 (enL enB) r.1,rI r.2]):=⟨λp0 r h=>by
 have i1:=inv λm s=>∃v5:Int,∃aa:List (List Int),∃ae:Nat,(s.t 0=vL enB p0/\s.t 4=vR 100012 ae/\s.t 5=vI v5/\s.h 100012=(ae,oW 74 1 (enL enB) aa))/\uR p0 m v5 aa=some r
 have e1:=@uR.eq_2
 unfold Bq at h
 exact sgo 50 [.tmp 2,.tmp 3] Tryz.func308⟩
instance:bK 511 (∀p0 r (h:rF p0=some r),Sc 511 [aL enB p0] [(true,M.aD.rs r.1),rB r.2]):=⟨λp0 r h=>by unfold rF at h;exact sgo 23 [.cell 2 129,.tmp 3] Tryz.func511⟩
instance:bK 172 (∀p0 r (h:wA p0=some r),Sc 172 [aL M.Op.en p0] [rW 5 1 enB r]):=⟨λp0 r h=>by
 have i1:=ES [.t 3 7050000 5 1] λm s=>∃v4:Int,∃aa:List Int,∃ae:Nat,(s.t 0=vL M.Op.en p0/\s.t 3=vR 7050000 ae/\s.t 4=vI v4/\s.h 7050000=(ae,oW 5 1 enB aa))/\pW p0 m v4 aa=some r
 have e1:=@pW.eq_2
 unfold wA at h
 exact sgo 64 [.tmp 2] Tryz.func172⟩
instance:bK 514 (∀p0 p1 p2 r (h:eF p0 p1 p2=some r),Sc 514 [aX (M.aC.en p0),aX (M.Key.en p1),aX (M.aD.en p2)] [(true,M.aC.rs r.1),rB r.2]):=⟨λp0 p1 p2 r h=>by
 have i1:=λ(aa:M.aC)=>inv λm s=>∃v10:Int,(s.t 3=vP 3 1 0/\s.t 4=vP 4 1 0/\s.t 5=vP 5 1 0/\s.t 6=vP 6 1 0/\s.t 8=vP 8 1 0/\s.t 10=vI v10/\s.h 3=(1,oX 117 (M.aC.en p0))/\s.h 4=(1,oX 136 (M.Key.en p1))/\s.h 5=(1,oX 129 (M.aD.en p2))/\s.h 6=(1,oB 117 [cS (⟨#[]⟩:ByteArray),.nil,cI 0])/\s.h 8=(1,oB 117 [cS aa.Name,.row 200028 1,cI aa.aHg])/\s.h 200028=(1,oW 260 4 M.aHV.en aa.aHF))/\rE p0 p1 p2 aa m v10=some r
 have e1:=@rE.eq_2
 unfold eF at h
 exact sgo 100 [.cell 6 117,.tmp 7] Tryz.func514⟩
instance:bK 516 (∀p0 p1 r (h:tA p0 p1=some r),Sc 516 [aX (M.aC.en p0),aX (M.gN.en p1)] [(true,M.aC.rs r.1),rI r.2]):=⟨λp0 p1 r h=>by
 have i1:=ES [.b 6 1 7050000 260 4] λm s=>∃v7:Int,∃aa:List M.aHV,∃ae:Nat,(s.t 2=vP 2 1 0/\s.t 3=vP 3 1 0/\s.t 4=vP 4 1 0/\s.t 6=vP 6 1 0/\s.t 7=vI v7/\s.h 2=(1,oX 117 (M.aC.en p0))/\s.h 3=(1,oX 533 (M.gN.en p1))/\s.h 4=(1,oB 117 [cS (⟨#[]⟩:ByteArray),.nil,cI 0])/\s.h 6=(1,oB 117 [cS p0.Name,.row 7050000 ae,cI p0.aHg])/\s.h 7050000=(ae,oW 260 4 M.aHV.en aa))/\iL p0 p1 m v7 aa=some r
 have e1:=@iL.eq_2
 unfold tA at h
 exact sgo 53 [.cell 4 117,.tmp 5] Tryz.func516⟩
instance:bK 173 (∀p0 p1 p2 r (h:wH p0 p1 p2=some r),Sc 173 [aL enB p0,aI p1,aL enB p2] [rW 5 1 enB r.1,rB r.2]):=⟨λp0 p1 p2 r h=>by unfold wH at h;exact sgo 29 [.tmp 6,.tmp 7] Tryz.func173⟩
instance:bK 597 (∀p0 p1 p2 p3 r (h:iM p0 p1 p2 p3=some r),Sc 597 [aX (M.aJ.en p0),aX (M.Key.en p1),aS p2,aI p3] [(true,M.aJ.rs r.1),rB r.2]):=⟨λp0 p1 p2 p3 r h=>by unfold iM at h;exact sgo 40 [.cell 8 120,.tmp 9] Tryz.func597⟩
instance aAd:bK 289 (∀p0 p1 r (h:pF p0 p1=some r),Sc 289 [aX (M.aF.en p0),aI p1] [(true,M.aF.rs r.1),rB r.2]):=⟨λp0 p1 r h=>by
 have i1:=λ(x1:M.aF)=>inv λm s=>∃v7:Int,(s.t 1=vI p1/\s.t 2=vP 2 1 0/\s.t 4=vP 4 1 0/\s.t 6=vP 6 1 0/\s.t 7=vI v7/\s.h 2=(1,oX 108 (M.aF.en p0))/\s.h 4=(1,oB 108 [.nil])/\s.h 6=(1,oB 108 [.row 100010 1])/\s.h 100010=(1,oW 345 2 M.aHM.en x1.aHC))/\mL p0 p1 x1 m v7=some r
 have e1:=@mL.eq_2
 unfold pF at h
 exact sgo 57 [.cell 4 108,.tmp 5] Tryz.func289⟩
instance:bK 291 (∀p0 p1 p2 p3 p4 r (h:oT p0 p1 p2 p3 p4=some r),Sc 291 [aX (M.aF.en p0),aI p1,aS p2,aS p3,aX (M.aHH.en p4)] [(true,M.aF.rs r.1),rB r.2]):=⟨λp0 p1 p2 p3 p4 r h=>by
 unfold oT at h
 simp only[EN]
 refine sgO 73 [.cell 10 108,.tmp 11] Tryz.func291 λbase wd => ?_
 refine sq ?_
 apply bE
 ·simp +decide only[LN,E,reduceIte,Nat.reduceAdd,Nat.reduceMul,qB,qC,L,pG,EN];exact Is.mk _
 refine an (sq ?_)
 obtain⟨x1,h2,h⟩:=bind_some h
 apply bE
 ·simp +decide only[LN,E,reduceIte,Nat.reduceAdd,Nat.reduceMul,qB,qC,L,pG,EN]
  refine⟨_,Y0.1 _ _ h2,?_⟩
  try simp +decide only[LN,E,reduceIte,Nat.reduceAdd,Nat.reduceMul,qB,qC,L,pG,EN]
  exact Is.mk _
 refine an (sq ?_)
 obtain⟨x3,h4,h⟩:=bind_some h
 apply bE
 ·simp +decide only[LN,E,reduceIte,Nat.reduceAdd,Nat.reduceMul,qB,qC,L,pG,EN]
  refine⟨_,aA4.1 _ _ _ h4,?_⟩
  try simp +decide only[LN,E,reduceIte,Nat.reduceAdd,Nat.reduceMul,qB,qC,L,pG,EN]
  exact Is.mk _
 refine an (sq (sq ?_))
 apply bE
 ·simp +decide only[LN,E,reduceIte,Nat.reduceAdd,Nat.reduceMul,qB,qC,L,EN];exact Is.mk _
 refine an ?_
 rcases dP (decide (x3<0))with b5 | b5
 ·replace h:=bG b5 h;refine CE (by simp +decide only[LN,F,reduceIte,Nat.reduceAdd,qB,qC,EN,b5]) ?_;refine sq ?_;apply bE;(simp +decide only[LN,E,reduceIte,Nat.reduceAdd,Nat.reduceMul,qB,qC,L,pG,EN,b5];exact Is.mk _);refine an (rt ?_);cases h;simp[Ret,EN,pG,M.aHM.en,b5]
 replace h:=bF b5 h
 refine Dk (by simp +decide only[LN,F,reduceIte,Nat.reduceAdd,qB,qC,EN,b5]) ?_
 refine sk (an (sq ?_))
 obtain⟨x6,h7,h⟩:=bind_some h
 apply bE
 ·simp +decide only[LN,E,reduceIte,Nat.reduceAdd,Nat.reduceMul,qB,qC,L,YX,MH,EN,b5]
  refine⟨_,aBV.1 _ _ h7,?_⟩
  try simp +decide only[LN,E,reduceIte,Nat.reduceAdd,Nat.reduceMul,qB,qC,L,YX,MH,EN,b5]
  exact Is.mk _
 refine an (sq (sq ?_))
 obtain⟨x8,h9,h⟩:=bind_some h
 obtain⟨bm,aa,bn⟩:=rR h9
 obtain⟨ae,aq,h⟩:=bind_some h
 apply bE
 ·simp +decide only[LN,E,reduceIte,Nat.reduceAdd,Nat.reduceMul,qB,qC,L,It,pG,Gk,M.aHM.en,EN, *,-h]
  refine⟨_,aA9.1 _ _ _ _ aq,?_⟩
  try simp +decide only[LN,E,reduceIte,Nat.reduceAdd,Nat.reduceMul,qB,qC,L,It,pG,Gk,M.aHM.en,EN, *,-h]
  exact Is.mk _
 refine an (sq ?_)
 apply bE
 ·simp +decide only[LN,E,reduceIte,Nat.reduceAdd,Nat.reduceMul,qB,qC,L,EN, *,-h];exact Is.mk _
 refine an ?_
 rcases Cw (decide (ae>=0))with af | af
 ·replace h:=bF af h
  refine Dk (by simp +decide only[LN,F,reduceIte,Nat.reduceAdd,qB,qC,EN, *,-h]) ?_
  refine Q4 [5,10,12,13,14] [5,10,12,14,400027] (i:=100017) (ver:=1) (e:=345) (sz:=2) (xs:=List.map M.aHM.en x1.aHC) (j:=x3.toNat) (x:=M.aHM.en x8) (off:=1) (K:=7057000) (e':=351) (sz':=7) (ys:=List.map M.aHU.en x8.aHS) (by first | (simp +decide only[LN,F,reduceIte,Nat.reduceAdd,qB,qC,EN,M.aHM.en,enB, *,-h];done)| (simp +decide only[LN,F,reduceIte,Nat.reduceAdd,qB,qC,EN,M.aHM.en,enB, *,-h];rfl)| rfl) ?_ rfl ?_ rfl (.inl rfl) (λ_ h=>h.elim) jI jI jI ?_ ?_ λu => ?_
  ·rw[List.getElem?_map,aa];rfl
  ·rw[<-(dL Gk).sl];rfl
  ·simp +decide only[LC,LN,F,reduceIte,Nat.reduceAdd,qB,qC,EN,M.aHM.en,enB, *,-h]
  ·simp +decide only[LC,LN,F,reduceIte,Nat.reduceAdd,qB,qC,EN,M.aHM.en,enB, *,-h]
  have bo:(List.set (List.map M.aHM.en x1.aHC) x3.toNat [.int .i64 x8.aHA,.val u])[x3.toNat]? = some [.int .i64 x8.aHA,.val u]:=Vz (b:=M.aHM.en x8) (by rw[List.getElem?_map,aa];rfl)
  refine eE (J:=λs=>s.t 5 = .v false [.bp 5 1 0]/\s.t 10 = .v false [.bp 10 1 0]/\s.t 12 = .v false [.bp 12 1 0]/\s.t 13 = .v false [.dat (.int .i64 x3)]/\s.t 14 = .v false [.bp 14 1 0]/\s.h 5=(1,.box 108 [.old base (.sl (List.map M.aHM.en p0.aHC)) none])/\s.h 10=(1,.box 108 [.nil])/\s.h 12=(1,.box 108 [.row 100017 1])/\s.h 14=(1,.box 351 [.dat (.str p2),.dat (.str p3),.dat (.int .i64 x6.aH2),.dat (.int .i64 x6.aHx),.dat (.int .i64 x6.aHA),.row 400027 1,.dat (.bool x6.aH9)])/\s.h 100017=(1,.row 345 2 (List.set (List.map M.aHM.en x1.aHC) x3.toNat [.int .i64 x8.aHA,.val u]) true)/\s.h 400027=(1,.row 5 1 (List.map enB x6.aH3) true)/\s.h 7057000=(1,.row 351 7 (List.map M.aHU.en x8.aHS) true)/\s.h 7058000=(1,.pin 7057000 1 u)/\True) ?_ ?_
  ·and_intros<;>(try first | (simp +decide only[LN,F,reduceIte,Nat.reduceAdd,qB,qC,EN,M.aHM.en,M.aHU.en,enB, *,-h];done)| (simp +decide only[LN,F,reduceIte,Nat.reduceAdd,qB,qC,EN,M.aHM.en,M.aHU.en,enB, *,-h];rfl)| rfl)
  rintro bq f57
  obtain⟨br,ar,h⟩:=bind_some h
  apply BO mixed
  ·simp +decide only[LN,E,reduceIte,Nat.reduceAdd,Nat.reduceMul,qB,qC,L,It,pG,Pm,Gk,MH,M.aHM.en,M.aHU.en,EN, *,-h]
   refine⟨by(have hb:=gO ar);simp[M.aHM.en,M.aHU.en,qE,aP]at hb ⊢ <;> omega,?_⟩
   try simp +decide only[LN,E,reduceIte,Nat.reduceAdd,Nat.reduceMul,qB,qC,L,It,pG,Pm,Gk,MH,M.aHM.en,M.aHU.en,EN, *,-h]
   exact⟨.mk jJ,Is.mk _⟩
  refine an (sq (sq ?_))
  refine eE (J:=λs=>s.t 5 = .v false [.bp 5 1 0]/\s.t 10 = .v false [.bp 10 1 0]/\s.t 12 = .v false [.bp 12 1 0]/\s.h 5=(1,.box 108 [.old base (.sl (List.map M.aHM.en p0.aHC)) none])/\s.h 10=(1,.box 108 [.nil])/\s.h 12=(1,.box 108 [.row 100017 1])/\s.h 100017=(1,.row 345 2 (List.map M.aHM.en (List.set x1.aHC x3.toNat (⟨x8.aHA,x8.aHS++[(⟨p2,p3,x6⟩:M.aHU)]⟩:M.aHM))) true)/\True) ?_ ?_
  ·and_intros<;>(try simp +decide only[LN,F,reduceIte,Nat.reduceAdd,qB,qC,EN,M.aHM.en, *,-h])
  rintro bt f73
  obtain⟨av,al,h⟩:=bind_some h
  rcases dP (!av)with ah | ah
  ·replace h:=bG ah h
   apply bE
   ·simp +decide only[LN,E,reduceIte,Nat.reduceAdd,Nat.reduceMul,qB,qC,L,pG,EN, *,-h]
    refine⟨_,XT.1 _ _ al,?_⟩
    try simp +decide only[LN,E,reduceIte,Nat.reduceAdd,Nat.reduceMul,qB,qC,L,pG,EN, *,-h]
    exact Is.mk _
   refine an ?_
   refine CE (by simp +decide only[LN,F,reduceIte,Nat.reduceAdd,qB,qC,EN, *,-h]) ?_
   refine sq ?_
   obtain⟨bu,aw,h⟩:=bind_some h
   apply bE
   ·simp +decide only[LN,E,reduceIte,Nat.reduceAdd,Nat.reduceMul,qB,qC,L,pG,EN, *,-h]
    refine⟨_,Y0.1 _ _ aw,?_⟩
    try simp +decide only[LN,E,reduceIte,Nat.reduceAdd,Nat.reduceMul,qB,qC,L,pG,EN, *,-h]
    exact Is.mk _
   refine an (rt ?_)
   cases h
   simp[Ret,EN,pG,M.aHM.en, *]
  replace h:=bF ah h
  obtain⟨ax,ay,h⟩:=bind_some h
  apply bE
  ·simp +decide only[LN,E,reduceIte,Nat.reduceAdd,Nat.reduceMul,qB,qC,L,pG,EN, *,-h]
   refine⟨_,XT.1 _ _ al,?_⟩
   try simp +decide only[LN,E,reduceIte,Nat.reduceAdd,Nat.reduceMul,qB,qC,L,pG,EN, *,-h]
   refine⟨_,XT.1 _ _ ay,?_⟩
   try simp +decide only[LN,E,reduceIte,Nat.reduceAdd,Nat.reduceMul,qB,qC,L,pG,EN, *,-h]
   exact Is.mk _
  refine an ?_
  rcases Cw (!ax)with ai | ai
  ·replace h:=bF ai h;refine Dk (by simp +decide only[LN,F,reduceIte,Nat.reduceAdd,qB,qC,EN, *,-h]) ?_;refine sk (an (sq ?_));apply bE;(simp +decide only[LN,E,reduceIte,Nat.reduceAdd,Nat.reduceMul,qB,qC,L,pG,EN, *,-h];exact Is.mk _);refine an (rt ?_);cases h;simp[Ret,EN,pG,M.aHM.en, *]
  replace h:=bG ai h
  refine CE (by simp +decide only[LN,F,reduceIte,Nat.reduceAdd,qB,qC,EN, *,-h]) ?_
  refine sq ?_
  obtain⟨bw,az,h⟩:=bind_some h
  apply bE
  ·simp +decide only[LN,E,reduceIte,Nat.reduceAdd,Nat.reduceMul,qB,qC,L,pG,EN, *,-h]
   refine⟨_,Y0.1 _ _ az,?_⟩
   try simp +decide only[LN,E,reduceIte,Nat.reduceAdd,Nat.reduceMul,qB,qC,L,pG,EN, *,-h]
   exact Is.mk _
  refine an (rt ?_)
  cases h
  simp[Ret,EN,pG,M.aHM.en, *]
 replace h:=bG af h
 refine CE (by simp +decide only[LN,F,reduceIte,Nat.reduceAdd,qB,qC,EN, *,-h]) ?_
 refine Q4 [5,10,12,13,14,15] [5,10,12,14,400027] (i:=100017) (ver:=1) (e:=345) (sz:=2) (xs:=List.map M.aHM.en x1.aHC) (j:=x3.toNat) (x:=M.aHM.en x8) (off:=1) (K:=7057000) (e':=351) (sz':=7) (ys:=List.map M.aHU.en x8.aHS) (by first | (simp +decide only[LN,F,reduceIte,Nat.reduceAdd,qB,qC,EN,M.aHM.en,enB, *,-h];done)| (simp +decide only[LN,F,reduceIte,Nat.reduceAdd,qB,qC,EN,M.aHM.en,enB, *,-h];rfl)| rfl) ?_ rfl ?_ rfl (.inl rfl) (λ_ h=>h.elim) jI jI jI ?_ ?_ λu => ?_
 ·rw[List.getElem?_map,aa];rfl
 ·rw[<-(dL Gk).sl];rfl
 ·simp +decide only[LC,LN,F,reduceIte,Nat.reduceAdd,qB,qC,EN,M.aHM.en,enB, *,-h]
 ·simp +decide only[LC,LN,F,reduceIte,Nat.reduceAdd,qB,qC,EN,M.aHM.en,enB, *,-h]
 have ba:(List.set (List.map M.aHM.en x1.aHC) x3.toNat [.int .i64 x8.aHA,.val u])[x3.toNat]? = some [.int .i64 x8.aHA,.val u]:=Vz (b:=M.aHM.en x8) (by rw[List.getElem?_map,aa];rfl)
 refine eE (J:=λs=>s.t 5 = .v false [.bp 5 1 0]/\s.t 10 = .v false [.bp 10 1 0]/\s.t 12 = .v false [.bp 12 1 0]/\s.t 13 = .v false [.dat (.int .i64 x3)]/\s.t 14 = .v false [.bp 14 1 0]/\s.t 15 = .v false [.dat (.int .i64 ae)]/\s.h 5=(1,.box 108 [.old base (.sl (List.map M.aHM.en p0.aHC)) none])/\s.h 10=(1,.box 108 [.nil])/\s.h 12=(1,.box 108 [.row 100017 1])/\s.h 14=(1,.box 351 [.dat (.str p2),.dat (.str p3),.dat (.int .i64 x6.aH2),.dat (.int .i64 x6.aHx),.dat (.int .i64 x6.aHA),.row 400027 1,.dat (.bool x6.aH9)])/\s.h 100017=(1,.row 345 2 (List.set (List.map M.aHM.en x1.aHC) x3.toNat [.int .i64 x8.aHA,.val u]) true)/\s.h 400027=(1,.row 5 1 (List.map enB x6.aH3) true)/\s.h 7057000=(1,.row 351 7 (List.map M.aHU.en x8.aHS) true)/\s.h 7058000=(1,.pin 7057000 1 u)/\True) ?_ ?_
 ·and_intros<;>(try first | (simp +decide only[LN,F,reduceIte,Nat.reduceAdd,qB,qC,EN,M.aHM.en,M.aHU.en,enB, *,-h];done)| (simp +decide only[LN,F,reduceIte,Nat.reduceAdd,qB,qC,EN,M.aHM.en,M.aHU.en,enB, *,-h];rfl)| rfl)
 rintro s16 f18
 obtain⟨bx,bd,h⟩:=bind_some h
 obtain⟨bz,c9,ca⟩:=rR bd
 apply BO mixed
 ·simp +decide only[LN,E,reduceIte,Nat.reduceAdd,Nat.reduceMul,qB,qC,L,It,pG,Pm,Gk,MH,M.aHM.en,M.aHU.en,EN, *,-h];exact⟨.mk jJ,Is.mk _⟩
 refine an ?_
 refine G7 (Gho.close (i:=100017) (ver:=1) (e:=345) (sz:=2) (xs:=List.set (List.map M.aHM.en x1.aHC) x3.toNat [.int .i64 x8.aHA,.val u]) (j:=x3.toNat) (x:=[.int .i64 x8.aHA,.val u]) (off:=1) (K:=7057000) (vK:=1) (e':=351) (sz':=7) (ys:=List.map M.aHU.en (List.set x8.aHS ae.toNat (⟨p2,p3,x6⟩:M.aHU))) (u:=u) (by first | (simp +decide only[LN,F,reduceIte,Nat.reduceAdd,qB,qC,EN,M.aHU.en, *,-h];done)| (simp +decide only[LN,F,reduceIte,Nat.reduceAdd,qB,qC,EN,M.aHU.en, *,-h];rfl)| rfl) ba rfl (by first | (simp +decide only[LN,F,reduceIte,Nat.reduceAdd,qB,qC,EN,M.aHU.en, *,-h];done)| (simp +decide only[LN,F,reduceIte,Nat.reduceAdd,qB,qC,EN,M.aHU.en, *,-h];rfl)| rfl) (by first | (simp +decide only[LN,F,reduceIte,Nat.reduceAdd,qB,qC,EN,M.aHU.en, *,-h];done)| (simp +decide only[LN,F,reduceIte,Nat.reduceAdd,qB,qC,EN,M.aHU.en, *,-h];rfl)| rfl) (by rw[<-(dL Gk).sl];rfl) rfl jI) ?_
 refine sq (sq ?_)
 refine eE (J:=λs=>s.t 5 = .v false [.bp 5 1 0]/\s.t 10 = .v false [.bp 10 1 0]/\s.t 12 = .v false [.bp 12 1 0]/\s.h 5=(1,.box 108 [.old base (.sl (List.map M.aHM.en p0.aHC)) none])/\s.h 10=(1,.box 108 [.nil])/\s.h 12=(1,.box 108 [.row 100017 1])/\s.h 100017=(1,.row 345 2 (List.map M.aHM.en (List.set x1.aHC x3.toNat (⟨x8.aHA,List.set x8.aHS ae.toNat (⟨p2,p3,x6⟩:M.aHU)⟩:M.aHM))) true)/\True) ?_ ?_
 ·and_intros<;>(try simp +decide only[LN,F,reduceIte,Nat.reduceAdd,qB,qC,EN,M.aHM.en, *,-h])
 rintro cd f38
 obtain⟨bf,ao,h⟩:=bind_some h
 rcases dP (!bf)with aj | aj
 ·replace h:=bG aj h
  apply bE
  ·simp +decide only[LN,E,reduceIte,Nat.reduceAdd,Nat.reduceMul,qB,qC,L,pG,EN, *,-h]
   refine⟨_,XT.1 _ _ ao,?_⟩
   try simp +decide only[LN,E,reduceIte,Nat.reduceAdd,Nat.reduceMul,qB,qC,L,pG,EN, *,-h]
   exact Is.mk _
  refine an ?_
  refine CE (by simp +decide only[LN,F,reduceIte,Nat.reduceAdd,qB,qC,EN, *,-h]) ?_
  refine sq ?_
  obtain⟨cg,bg,h⟩:=bind_some h
  apply bE
  ·simp +decide only[LN,E,reduceIte,Nat.reduceAdd,Nat.reduceMul,qB,qC,L,pG,EN, *,-h]
   refine⟨_,Y0.1 _ _ bg,?_⟩
   try simp +decide only[LN,E,reduceIte,Nat.reduceAdd,Nat.reduceMul,qB,qC,L,pG,EN, *,-h]
   exact Is.mk _
  refine an (rt ?_)
  cases h
  simp[Ret,EN,pG,M.aHM.en, *]
 replace h:=bF aj h
 obtain⟨bh,bj,h⟩:=bind_some h
 apply bE
 ·simp +decide only[LN,E,reduceIte,Nat.reduceAdd,Nat.reduceMul,qB,qC,L,pG,EN, *,-h]
  refine⟨_,XT.1 _ _ ao,?_⟩
  try simp +decide only[LN,E,reduceIte,Nat.reduceAdd,Nat.reduceMul,qB,qC,L,pG,EN, *,-h]
  refine⟨_,XT.1 _ _ bj,?_⟩
  try simp +decide only[LN,E,reduceIte,Nat.reduceAdd,Nat.reduceMul,qB,qC,L,pG,EN, *,-h]
  exact Is.mk _
 refine an ?_
 rcases Cw (!bh)with ak | ak
 ·replace h:=bF ak h;refine Dk (by simp +decide only[LN,F,reduceIte,Nat.reduceAdd,qB,qC,EN, *,-h]) ?_;refine sk (an (sq ?_));apply bE;(simp +decide only[LN,E,reduceIte,Nat.reduceAdd,Nat.reduceMul,qB,qC,L,pG,EN, *,-h];exact Is.mk _);refine an (rt ?_);cases h;simp[Ret,EN,pG,M.aHM.en, *]
 replace h:=bG ak h
 refine CE (by simp +decide only[LN,F,reduceIte,Nat.reduceAdd,qB,qC,EN, *,-h]) ?_
 refine sq ?_
 obtain⟨cj,bl,h⟩:=bind_some h
 apply bE
 ·simp +decide only[LN,E,reduceIte,Nat.reduceAdd,Nat.reduceMul,qB,qC,L,pG,EN, *,-h]
  refine⟨_,Y0.1 _ _ bl,?_⟩
  try simp +decide only[LN,E,reduceIte,Nat.reduceAdd,Nat.reduceMul,qB,qC,L,pG,EN, *,-h]
  exact Is.mk _
 refine an (rt ?_)
 cases h
 simp[Ret,EN,pG,M.aHM.en, *]⟩
instance:bK 606 (∀p0 r (h:BZ p0=some r),Sc 606 [(false,[.ptr [.sl (List.map enB p0.b),.int .i64 p0.i,.int .i64 p0.h]])] [(false,[.edit (.lend 304 [.int .i64 r.1,.int .i64 r.2.1])]),(true,M.Key.rs r.2.2)]):=⟨λp0 r h=>by
 unfold BZ at h
 simp only[EN]
 refine sgB 22 [.cell 2 136] Tryz.func606 λbase wd B0 u0 hw0=> ?_
 refine eE (J:=λs=>s.t 0=vP 7059000 1 0/\s.h 7059000=(1,oB 304 [.old B0 (.sl (List.map enB p0.b)) (some u0),cI p0.i,cI p0.h])/\True) ?_ ?_
 ·and_intros<;>(try simp only[LN,List.map_cons,List.map_nil])<;>rfl
 rintro s1 f2
 exact sgX⟩
instance:bK 644 (∀p0 p1 r (h:cW p0 p1=some r),Sc 644 [aX (M.aJ.en p0),aI p1] [(true,M.aJ.rs r.1),rI r.2]):=⟨λp0 p1 r h=>by
 have i1:=λ(x1:M.aJ)=>inv λm s=>∃v7:Int,(s.t 1=vI p1/\s.t 2=vP 2 1 0/\s.t 4=vP 4 1 0/\s.t 6=vP 6 1 0/\s.t 7=vI v7/\s.h 2=(1,oX 120 (M.aJ.en p0))/\s.h 4=(1,oB 120 [cI 0,cI 0,.nil])/\s.h 6=(1,oB 120 [cI x1.aHI,cI x1.aHj,.row 300009 1])/\s.h 300009=(1,oW 328 7 M.bB.en x1.aHW))/\pO p0 p1 x1 m v7=some r
 have e1:=@pO.eq_2
 unfold cW at h
 exact sgo 40 [.cell 4 120,.tmp 5] Tryz.func644⟩
