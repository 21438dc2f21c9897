/-
  Helper text. No conditions.
-/
import Derived.Test.YtipmihbgjolaaaaGreatLoadedFilesTi
import Derived.Test.YtipmihbgjolaaaaGreatLoadedFilesWspec0
import Derived.Test.YtipmihbgjolaaaaGreatLoadedFilesWspec1
import Derived.Test.YtipmihbgjolaaaaGreatLoadedFilesWspec2
import Derived.Test.YtipmihbgjolaaaaGreatLoadedFilesWspec3
import Derived.Test.YtipmihbgjolaaaaGreatLoadedFilesWspec4
set_option linter.unusedVariables false
set_option linter.unusedSimpArgs false
namespace Go.Proofs.YtipmihbgjolaaaaGreat.gen
open Go Go.Sh
set_option maxRecDepth 20000
set_option maxHeartbeats 4000000
theorem aCs (p0 r) (h:yK p0=some r):Sc 134 [aX (M.bV.en p0)] [(true,M.bV.rs r)]:=by unfold yK at h;exact sgo 13 [.cell 2 37] Tryz.func134
instance:bH 134 (type_of% @aCs):=⟨@aCs⟩
theorem c85 (p0 r) (h:oU p0=some r):Sc 85 [aX (M.aFG.en p0)] [rB r]:=by
 have i1:=inv λm s=>∃v3:Int,(s.t 1=vP 1 1 0/\s.t 3=vI v3/\s.h 1=(1,oX 137 (M.aFG.en p0)))/\gS p0 m v3=some r
 have e1:=@gS.eq_2
 have i2:=inv λm s=>∃v4:Int,(s.t 1=vP 1 1 0/\s.t 4=vI v4/\s.h 1=(1,oX 137 (M.aFG.en p0)))/\jJ p0 m v4=some r
 have e2:=@jJ.eq_2
 unfold oU at h
 exact sgo 79 [.tmp 2] Tryz.func85
instance:bH 85 (type_of% @c85):=⟨@c85⟩
theorem aBC (p0 p1 r) (h:AF p0 p1=some r):Sc 367 [aX (M.aC.en p0),aS p1] [rW 284 4 M.aFP.en r]:=by
 have i1:=DV [.t 5 7050000 284 4] λm s=>∃v6:Int,∃aa:List M.aFP,∃ae:Nat,(s.t 1=vS p1/\s.t 2=vP 2 1 0/\s.t 5=vR 7050000 ae/\s.t 6=vI v6/\s.h 2=(1,oX 40 (M.aC.en p0))/\s.h 7050000=(ae,oW 284 4 M.aFP.en aa))/\lC p0 p1 m v6 aa=some r
 have e1:=@lC.eq_2
 have i2:=λ(v6:Int) (aa:List M.aFP) (ah:M.aFP) (ai:Int->Option (List M.aFP)) (ae:Nat)=>inv λm s=>∃af:Int,(s.t 1=vS p1/\s.t 2=vP 2 1 0/\s.t 5=vR 7050000 ae/\s.t 6=vI v6/\s.t 9=vI af/\s.h 2=(1,oX 40 (M.aC.en p0))/\s.h 7050000=(ae,oW 284 4 M.aFP.en aa))/\nI p1 aa ah ai m af=some r
 have e2:=@nI.eq_2
 unfold AF at h
 exact sgo 72 [.tmp 4] Tryz.func367
instance:bH 367 (type_of% @aBC):=⟨@aBC⟩
theorem aC8 (p0 r) (h:mW p0=some r):Sc 237 [aX (M.aG.en p0)] [rB r]:=by unfold mW at h;exact sgo 23 [.tmp 2] Tryz.func237
instance:bH 237 (type_of% @aC8):=⟨@aC8⟩
theorem aD2 (p0 r) (h:uF p0=some r):Sc 317 [aX (M.aC.en p0)] [rI r]:=by
 have i1:=inv λm s=>∃v3:Int,∃v4:Int,(s.t 1=vP 1 1 0/\s.t 3=vI v3/\s.t 4=vI v4/\s.h 1=(1,oX 40 (M.aC.en p0)))/\kR p0 m v3 v4=some r
 have e1:=@kR.eq_2
 unfold uF at h
 exact sgo 32 [.tmp 2] Tryz.func317
instance:bH 317 (type_of% @aD2):=⟨@aD2⟩
theorem aB9 (p0 p1 r) (h:zS p0 p1=some r):Sc 154 [(false,[.ptr [.sl (List.map enB p0.b),.int .i64 p0.i,.int .i64 p0.h]]),aI p1] [(false,[.edit (.lend 182 [.int .i64 r.1,.int .i64 r.2.1])]),(true,M.Instr.rs r.2.2)]:=by
 unfold zS at h
 simp only [EN]
 refine sgB 59 [.cell 4 216] Tryz.func154 λbase wd B0 u0 hw0 => ?_
 refine eY (J:=λs=>s.t 0=vP 7059000 1 0/\s.t 1=vI p1/\s.h 7059000=(1,oB 182 [.old B0 (.sl (List.map enB p0.b)) (some u0),cI p0.i,cI p0.h])/\True) ?_ ?_
 ·and_intros<;>(try simp only [LN,List.map_cons,List.map_nil])<;>rfl
 rintro s1 f2
 exact sgX
instance:bH 154 (type_of% @aB9):=⟨@aB9⟩
theorem aDt (p0 r) (h:mX p0=some r):Sc 277 [aI p0] [(true,M.aM.rs r.1),rB r.2]:=by unfold mX at h;exact sgo 12 [.cell 2 43,.tmp 3] Tryz.func277
instance:bH 277 (type_of% @aDt):=⟨@aDt⟩
theorem aC0 (p0 r) (h:wY p0=some r):Sc 153 [aL M.Instr.en p0] [(true,M.aFI.rs r)]:=by unfold wY at h;exact sgo 15 [.cell 2 94] Tryz.func153
instance:bH 153 (type_of% @aC0):=⟨@aC0⟩
theorem aCa (p0 p1 r) (h:iQ p0 p1=some r):Sc 118 [aI p0,aS p1] [rI r]:=by unfold iQ at h;exact sgo 11 [.tmp 4] Tryz.func118
instance:bH 118 (type_of% @aCa):=⟨@aCa⟩
theorem Zb (p0 r) (h:jV p0=some r):Sc 209 [(false,[.ptr [.sl (List.map enB p0.b),.int .i64 p0.i,.int .i64 p0.h]])] [(false,[.edit (.lend 182 [.int .i64 r.1,.int .i64 r.2.1])]),(true,M.aD.rs r.2.2)]:=by
 unfold jV at h
 simp only [EN]
 refine sgB 22 [.cell 2 254] Tryz.func209 λbase wd B0 u0 hw0 => ?_
 refine eY (J:=λs=>s.t 0=vP 7059000 1 0/\s.h 7059000=(1,oB 182 [.old B0 (.sl (List.map enB p0.b)) (some u0),cI p0.i,cI p0.h])/\True) ?_ ?_
 ·and_intros<;>(try simp only [LN,List.map_cons,List.map_nil])<;>rfl
 rintro s1 f2
 have i1:=DV [.b 3 0 7050000 356 2] λm s=>∃v4:Int,∃aa:Int,∃ae:Int,∃af:List M.Field,∃ah:Nat,(s.t 0=vP 7059000 1 0/\s.t 2=vP 2 ((s1.h 2).1+1) 0/\s.t 3=vP 3 ((s1.h 3).1+1) 0/\s.t 4=vI v4/\s.h 2=(((s1.h 2).1+1),oB 254 [.nil])/\s.h 3=(((s1.h 3).1+1),oB 254 [.row 7050000 ah])/\s.h 7050000=(ah,oW 356 2 M.Field.en af)/\s.h 7059000=(1,oB 182 [.old B0 (.sl (List.map enB p0.b)) (some u0),cI aa,cI ae]))/\mL p0 m v4 aa ae af=some r
 have e1:=@mL.eq_2
 exact sgX
instance:bH 209 (type_of% @Zb):=⟨@Zb⟩
theorem aBk (p0 r) (h:As p0=some r):Sc 341 [aL enB p0] [rW 22 1 (enL enB) r.1,rI r.2]:=by
 have i1:=inv λm s=>∃v5:Int,∃aa:List (List Int),∃ae:Nat,(s.t 0=vL enB p0/\s.t 4=vR 100012 ae/\s.t 5=vI v5/\s.h 100012=(ae,oW 22 1 (enL enB) aa))/\sK p0 m v5 aa=some r
 have e1:=@sK.eq_2
 unfold As at h
 exact sgo 50 [.tmp 2,.tmp 3] Tryz.func341
instance:bH 341 (type_of% @aBk):=⟨@aBk⟩
theorem aBO (p0 r) (h:oD p0=some r):Sc 401 [aL enB p0] [(true,M.aD.rs r.1),rB r.2]:=by unfold oD at h;exact sgo 23 [.cell 2 254,.tmp 3] Tryz.func401
instance:bH 401 (type_of% @aBO):=⟨@aBO⟩
theorem aCw (p0 r) (h:tR p0=some r):Sc 280 [aL M.Op.en p0] [rW 5 1 enB r]:=by
 have i1:=DV [.t 3 7050000 5 1] λm s=>∃v4:Int,∃aa:List Int,∃ae:Nat,(s.t 0=vL M.Op.en p0/\s.t 3=vR 7050000 ae/\s.t 4=vI v4/\s.h 7050000=(ae,oW 5 1 enB aa))/\nT p0 m v4 aa=some r
 have e1:=@nT.eq_2
 unfold tR at h
 exact sgo 64 [.tmp 2] Tryz.func280
instance:bH 280 (type_of% @aCw):=⟨@aCw⟩
theorem aCj (p0 p1 p2 r) (h:dZ p0 p1 p2=some r):Sc 349 [aX (M.aC.en p0),aX (M.Key.en p1),aX (M.aD.en p2)] [(true,M.aC.rs r.1),rB r.2]:=by
 have i1:=λ(aa:M.aC)=>inv λm s=>∃v10:Int,(s.t 3=vP 3 1 0/\s.t 4=vP 4 1 0/\s.t 5=vP 5 1 0/\s.t 6=vP 6 1 0/\s.t 8=vP 8 1 0/\s.t 10=vI v10/\s.h 3=(1,oX 40 (M.aC.en p0))/\s.h 4=(1,oX 209 (M.Key.en p1))/\s.h 5=(1,oX 254 (M.aD.en p2))/\s.h 6=(1,oB 40 [cS (⟨#[]⟩:ByteArray),.nil,cI 0])/\s.h 8=(1,oB 40 [cS aa.Name,.row 200028 1,cI aa.aFZ])/\s.h 200028=(1,oW 284 4 M.aFP.en aa.aE7))/\oC p0 p1 p2 aa m v10=some r
 have e1:=@oC.eq_2
 unfold dZ at h
 exact sgo 100 [.cell 6 40,.tmp 7] Tryz.func349
instance:bH 349 (type_of% @aCj):=⟨@aCj⟩
theorem aDV (p0 p1 r) (h:pP p0 p1=some r):Sc 402 [aX (M.aC.en p0),aX (M.gE.en p1)] [(true,M.aC.rs r.1),rI r.2]:=by
 have i1:=DV [.b 6 1 7050000 284 4] λm s=>∃v7:Int,∃aa:List M.aFP,∃ae:Nat,(s.t 2=vP 2 1 0/\s.t 3=vP 3 1 0/\s.t 4=vP 4 1 0/\s.t 6=vP 6 1 0/\s.t 7=vI v7/\s.h 2=(1,oX 40 (M.aC.en p0))/\s.h 3=(1,oX 426 (M.gE.en p1))/\s.h 4=(1,oB 40 [cS (⟨#[]⟩:ByteArray),.nil,cI 0])/\s.h 6=(1,oB 40 [cS p0.Name,.row 7050000 ae,cI p0.aFZ])/\s.h 7050000=(ae,oW 284 4 M.aFP.en aa))/\iA p0 p1 m v7 aa=some r
 have e1:=@iA.eq_2
 unfold pP at h
 exact sgo 53 [.cell 4 40,.tmp 5] Tryz.func402
instance:bH 402 (type_of% @aDV):=⟨@aDV⟩
theorem aAK (p0 p1 p2 r) (h:tZ p0 p1 p2=some r):Sc 217 [aL enB p0,aI p1,aL enB p2] [rW 5 1 enB r.1,rB r.2]:=by unfold tZ at h;exact sgo 29 [.tmp 6,.tmp 7] Tryz.func217
instance:bH 217 (type_of% @aAK):=⟨@aAK⟩
theorem aBD (p0 p1 p2 p3 r) (h:iB p0 p1 p2 p3=some r):Sc 282 [aX (M.aM.en p0),aX (M.Key.en p1),aS p2,aI p3] [(true,M.aM.rs r.1),rB r.2]:=by unfold iB at h;exact sgo 40 [.cell 8 43,.tmp 9] Tryz.func282
instance:bH 282 (type_of% @aBD):=⟨@aBD⟩
theorem Y3 (p0 p1 r) (h:nC p0 p1=some r):Sc 212 [aX (M.aE.en p0),aI p1] [(true,M.aE.rs r.1),rB r.2]:=by
 have i1:=λ(x1:M.aE)=>inv λm s=>∃v7:Int,(s.t 1=vI p1/\s.t 2=vP 2 1 0/\s.t 4=vP 4 1 0/\s.t 6=vP 6 1 0/\s.t 7=vI v7/\s.h 2=(1,oX 31 (M.aE.en p0))/\s.h 4=(1,oB 31 [.nil])/\s.h 6=(1,oB 31 [.row 100010 1])/\s.h 100010=(1,oW 193 2 M.aFE.en x1.aE6))/\kZ p0 p1 x1 m v7=some r
 have e1:=@kZ.eq_2
 unfold nC at h
 exact sgo 57 [.cell 4 31,.tmp 5] Tryz.func212
instance:bH 212 (type_of% @Y3):=⟨@Y3⟩
theorem aBN (p0 p1 p2 p3 p4 r) (h:mT p0 p1 p2 p3 p4=some r):Sc 270 [aX (M.aE.en p0),aI p1,aS p2,aS p3,aX (M.aE9.en p4)] [(true,M.aE.rs r.1),rB r.2]:=by
 unfold mT at h
 simp only [EN]
 refine sgO 73 [.cell 10 31,.tmp 11] Tryz.func270 λbase wd => ?_
 refine sq ?_
 apply cW
 ·simp +decide only [LN,E,reduceIte,Nat.reduceAdd,Nat.reduceMul,qB,qC,L,Bt,EN];exact Is.mk _
 refine an (sq ?_)
 obtain ⟨x1,h2,h⟩:=bind_some h
 apply cW
 ·simp +decide only [LN,E,reduceIte,Nat.reduceAdd,Nat.reduceMul,qB,qC,L,Bt,EN]
  refine ⟨_,XI _ _ h2,?_⟩
  try simp +decide only [LN,E,reduceIte,Nat.reduceAdd,Nat.reduceMul,qB,qC,L,Bt,EN]
  exact Is.mk _
 refine an (sq ?_)
 obtain ⟨x3,h4,h⟩:=bind_some h
 apply cW
 ·simp +decide only [LN,E,reduceIte,Nat.reduceAdd,Nat.reduceMul,qB,qC,L,Bt,EN]
  refine ⟨_,ZP _ _ _ h4,?_⟩
  try simp +decide only [LN,E,reduceIte,Nat.reduceAdd,Nat.reduceMul,qB,qC,L,Bt,EN]
  exact Is.mk _
 refine an (sq (sq ?_))
 apply cW
 ·simp +decide only [LN,E,reduceIte,Nat.reduceAdd,Nat.reduceMul,qB,qC,L,EN];exact Is.mk _
 refine an ?_
 rcases nX (decide (x3<0)) with b5 | b5
 ·replace h:=cN b5 h;refine D0 (by simp +decide only [LN,F,reduceIte,Nat.reduceAdd,qB,qC,EN,b5]) ?_;refine sq ?_;apply cW;(simp +decide only [LN,E,reduceIte,Nat.reduceAdd,Nat.reduceMul,qB,qC,L,Bt,EN,b5];exact Is.mk _);refine an (rt ?_);cases h;simp [Ret,EN,Bt,M.aFE.en,b5]
 replace h:=cM b5 h
 refine Ff (by simp +decide only [LN,F,reduceIte,Nat.reduceAdd,qB,qC,EN,b5]) ?_
 refine sk (an (sq ?_))
 obtain ⟨x6,h7,h⟩:=bind_some h
 apply cW
 ·simp +decide only [LN,E,reduceIte,Nat.reduceAdd,Nat.reduceMul,qB,qC,L,Xi,Lo,EN,b5]
  refine ⟨_,ZN _ _ h7,?_⟩
  try simp +decide only [LN,E,reduceIte,Nat.reduceAdd,Nat.reduceMul,qB,qC,L,Xi,Lo,EN,b5]
  exact Is.mk _
 refine an (sq (sq ?_))
 obtain ⟨x8,h9,h⟩:=bind_some h
 obtain ⟨bm,aa,bn⟩:=tL h9
 obtain ⟨ae,aq,h⟩:=bind_some h
 apply cW
 ·simp +decide only [LN,E,reduceIte,Nat.reduceAdd,Nat.reduceMul,qB,qC,L,QA,Bt,Fv,M.aFE.en,EN, *,-h]
  refine ⟨_,ZW _ _ _ _ aq,?_⟩
  try simp +decide only [LN,E,reduceIte,Nat.reduceAdd,Nat.reduceMul,qB,qC,L,QA,Bt,Fv,M.aFE.en,EN, *,-h]
  exact Is.mk _
 refine an (sq ?_)
 apply cW
 ·simp +decide only [LN,E,reduceIte,Nat.reduceAdd,Nat.reduceMul,qB,qC,L,EN, *,-h];exact Is.mk _
 refine an ?_
 rcases Cf (decide (ae>=0)) with af | af
 ·replace h:=cM af h
  refine Ff (by simp +decide only [LN,F,reduceIte,Nat.reduceAdd,qB,qC,EN, *,-h]) ?_
  refine Py [5,10,12,13,14] [5,10,12,14,400027] (i:=100017) (ver:=1) (e:=193) (sz:=2) (xs:=List.map M.aFE.en x1.aE6) (j:=x3.toNat) (x:=M.aFE.en x8) (off:=1) (K:=7057000) (e':=195) (sz':=7) (ys:=List.map M.aFL.en x8.aFK) (by first | (simp +decide only [LN,F,reduceIte,Nat.reduceAdd,qB,qC,EN,M.aFE.en,enB, *,-h];done) | (simp +decide only [LN,F,reduceIte,Nat.reduceAdd,qB,qC,EN,M.aFE.en,enB, *,-h];rfl) | rfl) ?_ rfl ?_ rfl (.inl rfl) (λ_ h=>h.elim) qe qe qe ?_ ?_ λu => ?_
  ·rw [List.getElem?_map,aa];rfl
  ·rw [<-(dL Fv).sl];rfl
  ·simp +decide only [LC,LN,F,reduceIte,Nat.reduceAdd,qB,qC,EN,M.aFE.en,enB, *,-h]
  ·simp +decide only [LC,LN,F,reduceIte,Nat.reduceAdd,qB,qC,EN,M.aFE.en,enB, *,-h]
  have bo:(List.set (List.map M.aFE.en x1.aE6) x3.toNat [.int .i64 x8.aE3,.val u])[x3.toNat]? = some [.int .i64 x8.aE3,.val u]:=T7 (b:=M.aFE.en x8) (by rw [List.getElem?_map,aa];rfl)
  refine eY (J:=λs=>s.t 5 = .v false [.bp 5 1 0]/\s.t 10 = .v false [.bp 10 1 0]/\s.t 12 = .v false [.bp 12 1 0]/\s.t 13 = .v false [.dat (.int .i64 x3)]/\s.t 14 = .v false [.bp 14 1 0]/\s.h 5=(1,.box 31 [.old base (.sl (List.map M.aFE.en p0.aE6)) none])/\s.h 10=(1,.box 31 [.nil])/\s.h 12=(1,.box 31 [.row 100017 1])/\s.h 14=(1,.box 195 [.dat (.str p2),.dat (.str p3),.dat (.int .i64 x6.aFu),.dat (.int .i64 x6.aFm),.dat (.int .i64 x6.aE3),.row 400027 1,.dat (.bool x6.aFz)])/\s.h 100017=(1,.row 193 2 (List.set (List.map M.aFE.en x1.aE6) x3.toNat [.int .i64 x8.aE3,.val u]) true)/\s.h 400027=(1,.row 5 1 (List.map enB x6.aFw) true)/\s.h 7057000=(1,.row 195 7 (List.map M.aFL.en x8.aFK) true)/\s.h 7058000=(1,.pin 7057000 1 u)/\True) ?_ ?_
  ·and_intros<;>(try first | (simp +decide only [LN,F,reduceIte,Nat.reduceAdd,qB,qC,EN,M.aFE.en,M.aFL.en,enB, *,-h];done) | (simp +decide only [LN,F,reduceIte,Nat.reduceAdd,qB,qC,EN,M.aFE.en,M.aFL.en,enB, *,-h];rfl) | rfl)
  rintro bq f57
  obtain ⟨br,ar,h⟩:=bind_some h
  apply By mixed
  ·simp +decide only [LN,E,reduceIte,Nat.reduceAdd,Nat.reduceMul,qB,qC,L,QA,Bt,Nz,Fv,Lo,M.aFE.en,M.aFL.en,EN, *,-h]
   refine ⟨by (have hb:=gF ar);simp [M.aFE.en,M.aFL.en,qE,aP] at hb ⊢ <;> omega,?_⟩
   try simp +decide only [LN,E,reduceIte,Nat.reduceAdd,Nat.reduceMul,qB,qC,L,QA,Bt,Nz,Fv,Lo,M.aFE.en,M.aFL.en,EN, *,-h]
   exact ⟨.mk qf,Is.mk _⟩
  refine an (sq (sq ?_))
  refine eY (J:=λs=>s.t 5 = .v false [.bp 5 1 0]/\s.t 10 = .v false [.bp 10 1 0]/\s.t 12 = .v false [.bp 12 1 0]/\s.h 5=(1,.box 31 [.old base (.sl (List.map M.aFE.en p0.aE6)) none])/\s.h 10=(1,.box 31 [.nil])/\s.h 12=(1,.box 31 [.row 100017 1])/\s.h 100017=(1,.row 193 2 (List.map M.aFE.en (List.set x1.aE6 x3.toNat (⟨x8.aE3,(x8.aFK++[(⟨p2,p3,x6⟩:M.aFL)])⟩:M.aFE))) true)/\True) ?_ ?_
  ·and_intros<;>(try simp +decide only [LN,F,reduceIte,Nat.reduceAdd,qB,qC,EN,M.aFE.en, *,-h])
  rintro bt f73
  obtain ⟨av,al,h⟩:=bind_some h
  rcases nX (!av) with ah | ah
  ·replace h:=cN ah h
   apply cW
   ·simp +decide only [LN,E,reduceIte,Nat.reduceAdd,Nat.reduceMul,qB,qC,L,Bt,EN, *,-h]
    refine ⟨_,Wn _ _ al,?_⟩
    try simp +decide only [LN,E,reduceIte,Nat.reduceAdd,Nat.reduceMul,qB,qC,L,Bt,EN, *,-h]
    exact Is.mk _
   refine an ?_
   refine D0 (by simp +decide only [LN,F,reduceIte,Nat.reduceAdd,qB,qC,EN, *,-h]) ?_
   refine sq ?_
   obtain ⟨bu,aw,h⟩:=bind_some h
   apply cW
   ·simp +decide only [LN,E,reduceIte,Nat.reduceAdd,Nat.reduceMul,qB,qC,L,Bt,EN, *,-h]
    refine ⟨_,XI _ _ aw,?_⟩
    try simp +decide only [LN,E,reduceIte,Nat.reduceAdd,Nat.reduceMul,qB,qC,L,Bt,EN, *,-h]
    exact Is.mk _
   refine an (rt ?_)
   cases h
   simp [Ret,EN,Bt,M.aFE.en, *]
  replace h:=cM ah h
  obtain ⟨ax,ay,h⟩:=bind_some h
  apply cW
  ·simp +decide only [LN,E,reduceIte,Nat.reduceAdd,Nat.reduceMul,qB,qC,L,Bt,EN, *,-h]
   refine ⟨_,Wn _ _ al,?_⟩
   try simp +decide only [LN,E,reduceIte,Nat.reduceAdd,Nat.reduceMul,qB,qC,L,Bt,EN, *,-h]
   refine ⟨_,Wn _ _ ay,?_⟩
   try simp +decide only [LN,E,reduceIte,Nat.reduceAdd,Nat.reduceMul,qB,qC,L,Bt,EN, *,-h]
   exact Is.mk _
  refine an ?_
  rcases Cf (!ax) with ai | ai
  ·replace h:=cM ai h;refine Ff (by simp +decide only [LN,F,reduceIte,Nat.reduceAdd,qB,qC,EN, *,-h]) ?_;refine sk (an (sq ?_));apply cW;(simp +decide only [LN,E,reduceIte,Nat.reduceAdd,Nat.reduceMul,qB,qC,L,Bt,EN, *,-h];exact Is.mk _);refine an (rt ?_);cases h;simp [Ret,EN,Bt,M.aFE.en, *]
  replace h:=cN ai h
  refine D0 (by simp +decide only [LN,F,reduceIte,Nat.reduceAdd,qB,qC,EN, *,-h]) ?_
  refine sq ?_
  obtain ⟨bw,az,h⟩:=bind_some h
  apply cW
  ·simp +decide only [LN,E,reduceIte,Nat.reduceAdd,Nat.reduceMul,qB,qC,L,Bt,EN, *,-h]
   refine ⟨_,XI _ _ az,?_⟩
   try simp +decide only [LN,E,reduceIte,Nat.reduceAdd,Nat.reduceMul,qB,qC,L,Bt,EN, *,-h]
   exact Is.mk _
  refine an (rt ?_)
  cases h
  simp [Ret,EN,Bt,M.aFE.en, *]
 replace h:=cN af h
 refine D0 (by simp +decide only [LN,F,reduceIte,Nat.reduceAdd,qB,qC,EN, *,-h]) ?_
 refine Py [5,10,12,13,14,15] [5,10,12,14,400027] (i:=100017) (ver:=1) (e:=193) (sz:=2) (xs:=List.map M.aFE.en x1.aE6) (j:=x3.toNat) (x:=M.aFE.en x8) (off:=1) (K:=7057000) (e':=195) (sz':=7) (ys:=List.map M.aFL.en x8.aFK) (by first | (simp +decide only [LN,F,reduceIte,Nat.reduceAdd,qB,qC,EN,M.aFE.en,enB, *,-h];done) | (simp +decide only [LN,F,reduceIte,Nat.reduceAdd,qB,qC,EN,M.aFE.en,enB, *,-h];rfl) | rfl) ?_ rfl ?_ rfl (.inl rfl) (λ_ h=>h.elim) qe qe qe ?_ ?_ λu => ?_
 ·rw [List.getElem?_map,aa];rfl
 ·rw [<-(dL Fv).sl];rfl
 ·simp +decide only [LC,LN,F,reduceIte,Nat.reduceAdd,qB,qC,EN,M.aFE.en,enB, *,-h]
 ·simp +decide only [LC,LN,F,reduceIte,Nat.reduceAdd,qB,qC,EN,M.aFE.en,enB, *,-h]
 have ba:(List.set (List.map M.aFE.en x1.aE6) x3.toNat [.int .i64 x8.aE3,.val u])[x3.toNat]? = some [.int .i64 x8.aE3,.val u]:=T7 (b:=M.aFE.en x8) (by rw [List.getElem?_map,aa];rfl)
 refine eY (J:=λs=>s.t 5 = .v false [.bp 5 1 0]/\s.t 10 = .v false [.bp 10 1 0]/\s.t 12 = .v false [.bp 12 1 0]/\s.t 13 = .v false [.dat (.int .i64 x3)]/\s.t 14 = .v false [.bp 14 1 0]/\s.t 15 = .v false [.dat (.int .i64 ae)]/\s.h 5=(1,.box 31 [.old base (.sl (List.map M.aFE.en p0.aE6)) none])/\s.h 10=(1,.box 31 [.nil])/\s.h 12=(1,.box 31 [.row 100017 1])/\s.h 14=(1,.box 195 [.dat (.str p2),.dat (.str p3),.dat (.int .i64 x6.aFu),.dat (.int .i64 x6.aFm),.dat (.int .i64 x6.aE3),.row 400027 1,.dat (.bool x6.aFz)])/\s.h 100017=(1,.row 193 2 (List.set (List.map M.aFE.en x1.aE6) x3.toNat [.int .i64 x8.aE3,.val u]) true)/\s.h 400027=(1,.row 5 1 (List.map enB x6.aFw) true)/\s.h 7057000=(1,.row 195 7 (List.map M.aFL.en x8.aFK) true)/\s.h 7058000=(1,.pin 7057000 1 u)/\True) ?_ ?_
 ·and_intros<;>(try first | (simp +decide only [LN,F,reduceIte,Nat.reduceAdd,qB,qC,EN,M.aFE.en,M.aFL.en,enB, *,-h];done) | (simp +decide only [LN,F,reduceIte,Nat.reduceAdd,qB,qC,EN,M.aFE.en,M.aFL.en,enB, *,-h];rfl) | rfl)
 rintro s16 f18
 obtain ⟨bx,bd,h⟩:=bind_some h
 obtain ⟨bz,c9,ca⟩:=tL bd
 apply By mixed
 ·simp +decide only [LN,E,reduceIte,Nat.reduceAdd,Nat.reduceMul,qB,qC,L,QA,Bt,Nz,Fv,Lo,M.aFE.en,M.aFL.en,EN, *,-h];exact ⟨.mk qf,Is.mk _⟩
 refine an ?_
 refine Hf (Gho.close (i:=100017) (ver:=1) (e:=193) (sz:=2) (xs:=List.set (List.map M.aFE.en x1.aE6) x3.toNat [.int .i64 x8.aE3,.val u]) (j:=x3.toNat) (x:=[.int .i64 x8.aE3,.val u]) (off:=1) (K:=7057000) (vK:=1) (e':=195) (sz':=7) (ys:=List.map M.aFL.en (List.set x8.aFK ae.toNat (⟨p2,p3,x6⟩:M.aFL))) (u:=u) (by first | (simp +decide only [LN,F,reduceIte,Nat.reduceAdd,qB,qC,EN,M.aFL.en, *,-h];done) | (simp +decide only [LN,F,reduceIte,Nat.reduceAdd,qB,qC,EN,M.aFL.en, *,-h];rfl) | rfl) ba rfl (by first | (simp +decide only [LN,F,reduceIte,Nat.reduceAdd,qB,qC,EN,M.aFL.en, *,-h];done) | (simp +decide only [LN,F,reduceIte,Nat.reduceAdd,qB,qC,EN,M.aFL.en, *,-h];rfl) | rfl) (by first | (simp +decide only [LN,F,reduceIte,Nat.reduceAdd,qB,qC,EN,M.aFL.en, *,-h];done) | (simp +decide only [LN,F,reduceIte,Nat.reduceAdd,qB,qC,EN,M.aFL.en, *,-h];rfl) | rfl) (by rw [<-(dL Fv).sl];rfl) rfl qe) ?_
 refine sq (sq ?_)
 refine eY (J:=λs=>s.t 5 = .v false [.bp 5 1 0]/\s.t 10 = .v false [.bp 10 1 0]/\s.t 12 = .v false [.bp 12 1 0]/\s.h 5=(1,.box 31 [.old base (.sl (List.map M.aFE.en p0.aE6)) none])/\s.h 10=(1,.box 31 [.nil])/\s.h 12=(1,.box 31 [.row 100017 1])/\s.h 100017=(1,.row 193 2 (List.map M.aFE.en (List.set x1.aE6 x3.toNat (⟨x8.aE3,(List.set x8.aFK ae.toNat (⟨p2,p3,x6⟩:M.aFL))⟩:M.aFE))) true)/\True) ?_ ?_
 ·and_intros<;>(try simp +decide only [LN,F,reduceIte,Nat.reduceAdd,qB,qC,EN,M.aFE.en, *,-h])
 rintro cc f38
 obtain ⟨bf,ao,h⟩:=bind_some h
 rcases nX (!bf) with aj | aj
 ·replace h:=cN aj h
  apply cW
  ·simp +decide only [LN,E,reduceIte,Nat.reduceAdd,Nat.reduceMul,qB,qC,L,Bt,EN, *,-h]
   refine ⟨_,Wn _ _ ao,?_⟩
   try simp +decide only [LN,E,reduceIte,Nat.reduceAdd,Nat.reduceMul,qB,qC,L,Bt,EN, *,-h]
   exact Is.mk _
  refine an ?_
  refine D0 (by simp +decide only [LN,F,reduceIte,Nat.reduceAdd,qB,qC,EN, *,-h]) ?_
  refine sq ?_
  obtain ⟨cd,bg,h⟩:=bind_some h
  apply cW
  ·simp +decide only [LN,E,reduceIte,Nat.reduceAdd,Nat.reduceMul,qB,qC,L,Bt,EN, *,-h]
   refine ⟨_,XI _ _ bg,?_⟩
   try simp +decide only [LN,E,reduceIte,Nat.reduceAdd,Nat.reduceMul,qB,qC,L,Bt,EN, *,-h]
   exact Is.mk _
  refine an (rt ?_)
  cases h
  simp [Ret,EN,Bt,M.aFE.en, *]
 replace h:=cM aj h
 obtain ⟨bh,bj,h⟩:=bind_some h
 apply cW
 ·simp +decide only [LN,E,reduceIte,Nat.reduceAdd,Nat.reduceMul,qB,qC,L,Bt,EN, *,-h]
  refine ⟨_,Wn _ _ ao,?_⟩
  try simp +decide only [LN,E,reduceIte,Nat.reduceAdd,Nat.reduceMul,qB,qC,L,Bt,EN, *,-h]
  refine ⟨_,Wn _ _ bj,?_⟩
  try simp +decide only [LN,E,reduceIte,Nat.reduceAdd,Nat.reduceMul,qB,qC,L,Bt,EN, *,-h]
  exact Is.mk _
 refine an ?_
 rcases Cf (!bh) with ak | ak
 ·replace h:=cM ak h;refine Ff (by simp +decide only [LN,F,reduceIte,Nat.reduceAdd,qB,qC,EN, *,-h]) ?_;refine sk (an (sq ?_));apply cW;(simp +decide only [LN,E,reduceIte,Nat.reduceAdd,Nat.reduceMul,qB,qC,L,Bt,EN, *,-h];exact Is.mk _);refine an (rt ?_);cases h;simp [Ret,EN,Bt,M.aFE.en, *]
 replace h:=cN ak h
 refine D0 (by simp +decide only [LN,F,reduceIte,Nat.reduceAdd,qB,qC,EN, *,-h]) ?_
 refine sq ?_
 obtain ⟨cg,bl,h⟩:=bind_some h
 apply cW
 ·simp +decide only [LN,E,reduceIte,Nat.reduceAdd,Nat.reduceMul,qB,qC,L,Bt,EN, *,-h]
  refine ⟨_,XI _ _ bl,?_⟩
  try simp +decide only [LN,E,reduceIte,Nat.reduceAdd,Nat.reduceMul,qB,qC,L,Bt,EN, *,-h]
  exact Is.mk _
 refine an (rt ?_)
 cases h
 simp [Ret,EN,Bt,M.aFE.en, *]
instance:bH 270 (type_of% @aBN):=⟨@aBN⟩
theorem aB4 (p0 r) (h:AV p0=some r):Sc 358 [(false,[.ptr [.sl (List.map enB p0.b),.int .i64 p0.i,.int .i64 p0.h]])] [(false,[.edit (.lend 182 [.int .i64 r.1,.int .i64 r.2.1])]),(true,M.Key.rs r.2.2)]:=by
 unfold AV at h
 simp only [EN]
 refine sgB 22 [.cell 2 209] Tryz.func358 λbase wd B0 u0 hw0 => ?_
 refine eY (J:=λs=>s.t 0=vP 7059000 1 0/\s.h 7059000=(1,oB 182 [.old B0 (.sl (List.map enB p0.b)) (some u0),cI p0.i,cI p0.h])/\True) ?_ ?_
 ·and_intros<;>(try simp only [LN,List.map_cons,List.map_nil])<;>rfl
 rintro s1 f2
 exact sgX
instance:bH 358 (type_of% @aB4):=⟨@aB4⟩
theorem aCJ (p0 p1 r) (h:cT p0 p1=some r):Sc 354 [aX (M.aM.en p0),aI p1] [(true,M.aM.rs r.1),rI r.2]:=by
 have i1:=λ(x1:M.aM)=>inv λm s=>∃v7:Int,(s.t 1=vI p1/\s.t 2=vP 2 1 0/\s.t 4=vP 4 1 0/\s.t 6=vP 6 1 0/\s.t 7=vI v7/\s.h 2=(1,oX 43 (M.aM.en p0))/\s.h 4=(1,oB 43 [cI 0,cI 0,.nil])/\s.h 6=(1,oB 43 [cI x1.aFC,cI x1.aFd,.row 300009 1])/\s.h 300009=(1,oW 211 7 M.bD.en x1.aFO))/\nJ p0 p1 x1 m v7=some r
 have e1:=@nJ.eq_2
 unfold cT at h
 exact sgo 40 [.cell 4 43,.tmp 5] Tryz.func354
instance:bH 354 (type_of% @aCJ):=⟨@aCJ⟩
end Go.Proofs.YtipmihbgjolaaaaGreat.gen
