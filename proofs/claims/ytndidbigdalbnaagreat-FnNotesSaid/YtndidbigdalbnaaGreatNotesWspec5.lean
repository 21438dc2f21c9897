/-
  Helper text. No conditions.
-/
import Derived.Test.YtndidbigdalbnaaGreatNotesWspec3
import Derived.Test.YtndidbigdalbnaaGreatNotesWspec4
set_option linter.all false
namespace Go.Proofs.YtndidbigdalbnaaGreat.gen
open Go Go.Sh Tryz
set_option maxRecDepth 20000
set_option maxHeartbeats 4000000
instance c87:bU 87 (∀p0 r (h:Aq p0=some r),Sc 87 [aX (M.bJ.en p0)] [(true,M.bJ.rs r)]):=⟨λp0 r h=>by unfold Aq at h;exact sgo 13 [.cell 2 58] func87⟩
instance:bU 287 (∀p0 r (h:tM p0=some r),Sc 287 [aX (M.aKt.en p0)] [rB r]):=⟨λp0 r h=>by
 have i1:=inv λm s=>∃v3:Int,(s.t 1=vP 1 1 0/\s.t 3=vI v3/\s.h 1=(1,oX 125 (M.aKt.en p0)))/\iZ p0 m v3=some r
 have e1:=@iZ.eq_2
 have i2:=inv λm s=>∃v4:Int,(s.t 1=vP 1 1 0/\s.t 4=vI v4/\s.h 1=(1,oX 125 (M.aKt.en p0)))/\lX p0 m v4=some r
 have e2:=@lX.eq_2
 unfold tM at h
 exact sgo 79 [.tmp 2] func287⟩
instance:bU 259 (∀p0 p1 r (h:C4 p0 p1=some r),Sc 259 [aX (M.aD.en p0),aS p1] [rW 153 4 M.aKy.en r]):=⟨λp0 p1 r h=>by
 have i1:=He [.t 5 7050000 153 4] λm s=>∃v6:Int,∃aa:List M.aKy,∃ae:Nat,(s.t 1=vS p1/\s.t 2=vP 2 1 0/\s.t 5=vR 7050000 ae/\s.t 6=vI v6/\s.h 2=(1,oX 66 (M.aD.en p0))/\s.h 7050000=(ae,oW 153 4 M.aKy.en aa))/\nW p0 p1 m v6 aa=some r
 have e1:=@nW.eq_2
 have i2:=λ(v6:Int) (aa:List M.aKy) (ah:M.aKy) (ai:Int->Option (List M.aKy)) (ae:Nat)=>inv λm s=>∃af:Int,(s.t 1=vS p1/\s.t 2=vP 2 1 0/\s.t 5=vR 7050000 ae/\s.t 6=vI v6/\s.t 9=vI af/\s.h 2=(1,oX 66 (M.aD.en p0))/\s.h 7050000=(ae,oW 153 4 M.aKy.en aa))/\rP p1 aa ah ai m af=some r
 have e2:=@rP.eq_2
 unfold C4 at h
 exact sgo 72 [.tmp 4] func259⟩
instance:bU 212 (∀p0 r (h:rD p0=some r),Sc 212 [aX (M.aH.en p0)] [rB r]):=⟨λp0 r h=>by unfold rD at h;exact sgo 23 [.tmp 2] func212⟩
instance:bU 271 (∀p0 r (h:BI p0=some r),Sc 271 [aX (M.aD.en p0)] [rI r]):=⟨λp0 r h=>by
 have i1:=inv λm s=>∃v3:Int,∃v4:Int,(s.t 1=vP 1 1 0/\s.t 3=vI v3/\s.t 4=vI v4/\s.h 1=(1,oX 66 (M.aD.en p0)))/\nH p0 m v3 v4=some r
 have e1:=@nH.eq_2
 unfold BI at h
 exact sgo 32 [.tmp 2] func271⟩
instance:bU 238 (∀p0 p1 r (h:D1 p0 p1=some r),Sc 238 [(false,[.ptr [.sl (List.map enB p0.b),.int .i64 p0.i,.int .i64 p0.h]]),aI p1] [(false,[.edit (.lend 138 [.int .i64 r.1,.int .i64 r.2.1])]),(true,M.aY.rs r.2.2)]):=⟨λp0 p1 r h=>by
 unfold D1 at h
 simp only[EN]
 refine sgB 59 [.cell 4 229] func238 λbase wd B0 u0 hw0=> ?_
 refine bY (J:=λs=>s.t 0=vP 7059000 1 0/\s.t 1=vI p1/\s.h 7059000=(1,oB 138 [.old B0 (.sl (List.map enB p0.b)) (some u0),cI p0.i,cI p0.h])/\True) ?_ ?_
 ·and_intros<;>(try simp only[LN,jJ,jK])<;>rfl
 rintro s1 f2
 exact sgX⟩
instance:bU 331 (∀p0 r (h:rF p0=some r),Sc 331 [aI p0] [(true,M.aO.rs r.1),rB r.2]):=⟨λp0 r h=>by unfold rF at h;exact sgo 12 [.cell 2 69,.tmp 3] func331⟩
instance:bU 236 (∀p0 r (h:A4 p0=some r),Sc 236 [aL M.aY.en p0] [(true,M.aKh.rs r)]):=⟨λp0 r h=>by unfold A4 at h;exact sgo 15 [.cell 2 42] func236⟩
instance:bU 368 (∀p0 p1 r (h:lH p0 p1=some r),Sc 368 [aI p0,aS p1] [rI r]):=⟨λp0 p1 r h=>by unfold lH at h;exact sgo 11 [.tmp 4] func368⟩
instance:bU 43 (∀p0 r (h:CX p0=some r),Sc 43 [aL enB p0] [rW 22 1 (enL enB) r.1,rI r.2]):=⟨λp0 r h=>by
 have i1:=inv λm s=>∃v5:Int,∃aa:List (List Int),∃ae:Nat,(s.t 0=vL enB p0/\s.t 4=vR 100012 ae/\s.t 5=vI v5/\s.h 100012=(ae,oW 22 1 (enL enB) aa))/\xL p0 m v5 aa=some r
 have e1:=@xL.eq_2
 unfold CX at h
 exact sgo 50 [.tmp 2,.tmp 3] func43⟩
instance:bU 257 (∀p0 r (h:sN p0=some r),Sc 257 [aL enB p0] [(true,M.aF.rs r.1),rB r.2]):=⟨λp0 r h=>by unfold sN at h;exact sgo 23 [.cell 2 90,.tmp 3] func257⟩
instance:bU 89 (∀p0 r (h:yT p0=some r),Sc 89 [aL M.fA.en p0] [rW 5 1 enB r]):=⟨λp0 r h=>by
 have i1:=He [.t 3 7050000 5 1] λm s=>∃v4:Int,∃aa:List Int,∃ae:Nat,(s.t 0=vL M.fA.en p0/\s.t 3=vR 7050000 ae/\s.t 4=vI v4/\s.h 7050000=(ae,oW 5 1 enB aa))/\sD p0 m v4 aa=some r
 have e1:=@sD.eq_2
 unfold yT at h
 exact sgo 64 [.tmp 2] func89⟩
instance:bU 260 (∀p0 p1 p2 r (h:fD p0 p1 p2=some r),Sc 260 [aX (M.aD.en p0),aX (M.bD.en p1),aX (M.aF.en p2)] [(true,M.aD.rs r.1),rB r.2]):=⟨λp0 p1 p2 r h=>by
 have i1:=λ(aa:M.aD)=>inv λm s=>∃v10:Int,(s.t 3=vP 3 1 0/\s.t 4=vP 4 1 0/\s.t 5=vP 5 1 0/\s.t 6=vP 6 1 0/\s.t 8=vP 8 1 0/\s.t 10=vI v10/\s.h 3=(1,oX 66 (M.aD.en p0))/\s.h 4=(1,oX 98 (M.bD.en p1))/\s.h 5=(1,oX 90 (M.aF.en p2))/\s.h 6=(1,oB 66 [cS (⟨#[]⟩:ByteArray),.nil,cI 0])/\s.h 8=(1,oB 66 [cS aa.Name,.row 200028 1,cI aa.aK7])/\s.h 200028=(1,oW 153 4 M.aKy.en aa.aKg))/\sM p0 p1 p2 aa m v10=some r
 have e1:=@sM.eq_2
 unfold fD at h
 exact sgo 100 [.cell 6 66,.tmp 7] func260⟩
instance:bU 262 (∀p0 p1 r (h:uM p0 p1=some r),Sc 262 [aX (M.aD.en p0),aX (M.fY.en p1)] [(true,M.aD.rs r.1),rI r.2]):=⟨λp0 p1 r h=>by
 have i1:=He [.b 6 1 7050000 153 4] λm s=>∃v7:Int,∃aa:List M.aKy,∃ae:Nat,(s.t 2=vP 2 1 0/\s.t 3=vP 3 1 0/\s.t 4=vP 4 1 0/\s.t 6=vP 6 1 0/\s.t 7=vI v7/\s.h 2=(1,oX 66 (M.aD.en p0))/\s.h 3=(1,oX 303 (M.fY.en p1))/\s.h 4=(1,oB 66 [cS (⟨#[]⟩:ByteArray),.nil,cI 0])/\s.h 6=(1,oB 66 [cS p0.Name,.row 7050000 ae,cI p0.aK7])/\s.h 7050000=(ae,oW 153 4 M.aKy.en aa))/\kL p0 p1 m v7 aa=some r
 have e1:=@kL.eq_2
 unfold uM at h
 exact sgo 53 [.cell 4 66,.tmp 5] func262⟩
instance:bU 90 (∀p0 p1 p2 r (h:zE p0 p1 p2=some r),Sc 90 [aL enB p0,aI p1,aL enB p2] [rW 5 1 enB r.1,rB r.2]):=⟨λp0 p1 p2 r h=>by unfold zE at h;exact sgo 29 [.tmp 6,.tmp 7] func90⟩
instance:bU 335 (∀p0 p1 p2 p3 r (h:kN p0 p1 p2 p3=some r),Sc 335 [aX (M.aO.en p0),aX (M.bD.en p1),aS p2,aI p3] [(true,M.aO.rs r.1),rB r.2]):=⟨λp0 p1 p2 p3 r h=>by unfold kN at h;exact sgo 40 [.cell 8 69,.tmp 9] func335⟩
instance aEs:bU 297 (∀p0 r (h:pC p0=some r),Sc 297 [(false,[.ptr [.sl (List.map enB p0.b),.int .i64 p0.i,.int .i64 p0.h]])] [(false,[.edit (.lend 138 [.int .i64 r.1,.int .i64 r.2.1])]),(true,M.aF.rs r.2.2)]):=⟨λp0 r h=>by
 unfold pC at h
 simp only[EN]
 refine sgB 22 [.cell 2 90] func297 λbase wd B0 u0 hw0=> ?_
 refine bY (J:=λs=>s.t 0=vP 7059000 1 0/\s.h 7059000=(1,oB 138 [.old B0 (.sl (List.map enB p0.b)) (some u0),cI p0.i,cI p0.h])/\True) ?_ ?_
 ·and_intros<;>(try simp only[LN,jJ,jK])<;>rfl
 rintro s1 f2
 have i1:=He [.b 3 0 7050000 157 2] λm s=>∃v4:Int,∃aa:Int,∃ae:Int,∃af:List M.aR,∃ah:Nat,(s.t 0=vP 7059000 1 0/\s.t 2=vP 2 ((s1.h 2).1+1) 0/\s.t 3=vP 3 ((s1.h 3).1+1) 0/\s.t 4=vI v4/\s.h 2=((s1.h 2).1+1,oB 90 [.nil])/\s.h 3=((s1.h 3).1+1,oB 90 [.row 7050000 ah])/\s.h 7050000=(ah,oW 157 2 M.aR.en af)/\s.h 7059000=(1,oB 138 [.old B0 (.sl (List.map enB p0.b)) (some u0),cI aa,cI ae]))/\tZ p0 m v4 aa ae af=some r
 have e1:=@tZ.eq_2
 exact sgX⟩
instance aEg:bU 298 (∀p0 p1 r (h:rJ p0 p1=some r),Sc 298 [aX (M.aN.en p0),aI p1] [(true,M.aN.rs r.1),rB r.2]):=⟨λp0 p1 r h=>by
 have i1:=λ(x1:M.aN)=>inv λm s=>∃v7:Int,(s.t 1=vI p1/\s.t 2=vP 2 1 0/\s.t 4=vP 4 1 0/\s.t 6=vP 6 1 0/\s.t 7=vI v7/\s.h 2=(1,oX 63 (M.aN.en p0))/\s.h 4=(1,oB 63 [.nil])/\s.h 6=(1,oB 63 [.row 100010 1])/\s.h 100010=(1,oW 262 2 M.aKv.en x1.aKi))/\nP p0 p1 x1 m v7=some r
 have e1:=@nP.eq_2
 unfold rJ at h
 exact sgo 57 [.cell 4 63,.tmp 5] func298⟩
instance:bU 356 (∀p0 p1 p2 p3 p4 r (h:pU p0 p1 p2 p3 p4=some r),Sc 356 [aX (M.aN.en p0),aI p1,aS p2,aS p3,aX (M.aKo.en p4)] [(true,M.aN.rs r.1),rB r.2]):=⟨λp0 p1 p2 p3 p4 r h=>by
 unfold pU at h
 simp only[EN]
 refine sgO 73 [.cell 10 63,.tmp 11] func356 λbase wd => ?_
 refine sq ?_
 refine xn ?_
 refine an (sq ?_)
 obtain⟨x1,h2,h⟩:=aA h
 refine xn1 (aDJ.1 _ _ h2) ?_
 refine an (sq ?_)
 obtain⟨x3,h4,h⟩:=aA h
 refine xn1 (aF4.1 _ _ _ h4) ?_
 refine an (sq (sq ?_))
 refine xn ?_
 refine an ?_
 rcases gK (decide (x3<0))with b5 | b5
 ·replace h:=bQ b5 h;refine yL zM ?_;refine sq ?_;refine xn ?_;refine an (rt ?_);cases h;simp[Ret,EN,Sv,M.aKv.en,b5]
 replace h:=bP b5 h
 refine Ay zM ?_
 refine sk (an (sq ?_))
 obtain⟨x6,h7,h⟩:=aA h
 refine xn1 (aEz.1 _ _ h7) ?_
 refine an (sq (sq ?_))
 obtain⟨x8,h9,h⟩:=aA h
 obtain⟨bm,aa,bn⟩:=pK h9
 obtain⟨ae,aq,h⟩:=aA h
 refine xn1 (aE9.1 _ _ _ _ aq) ?_
 refine an (sq ?_)
 refine xn ?_
 refine an ?_
 obtain⟨V1,eV1⟩:=nmH ((1,.box 264 [.dat (.str p2),.dat (.str p3),.dat (.int .i64 x6.aLX),.dat (.int .i64 x6.aLV),.dat (.int .i64 x6.aKb),.row 400027 1,.dat (.bool x6.aLc)]))
 obtain⟨V2,eV2⟩:=nmH ((1,.box 63 [.old base (.sl (List.map M.aKv.en p0.aKi)) none]))
 obtain⟨V3,eV3⟩:=nmH ((1,.row 264 7 (List.map M.aK2.en x8.aKs) true))
 obtain⟨V4,eV4⟩:=nmH ((1,.row 5 1 (List.map enB x6.aLZ) true))
 obtain⟨V5,eV5⟩:=nmH ((1,.box 63 [.row 100017 1]))
 obtain⟨V6,eV6⟩:=nmT (.v false [.bp 10 1 0])
 obtain⟨V7,eV7⟩:=nmT (.v false [.bp 12 1 0])
 obtain⟨V8,eV8⟩:=nmT (.v false [.bp 5 1 0])
 obtain⟨V9,eV9⟩:=nmH ((1,.box 63 [.nil]))
 rcases CP (decide (ae>=0))with af | af
 ·replace h:=bP af h
  refine Ay zM ?_
  refine UO [5,10,12,13,14] [5,10,12,14,400027] (i:=100017) (ver:=1) (e:=262) (sz:=2) (xs:=List.map M.aKv.en x1.aKi) (j:=x3.toNat) (x:=M.aKv.en x8) (off:=1) (K:=7057000) (e':=264) (sz':=7) (ys:=List.map M.aK2.en x8.aKs) zM ?_ rfl ?_ rfl (.inl rfl) (λ_ h=>h.elim) we we we ?_ ?_ λu => ?_
  ·rw[List.getElem?_map,aa];rfl
  ·rw[<-(eH La).sl];rfl
  ·simp +decide only[LC,LN,F,reduceIte,Nat.reduceAdd,qB,qC,EN,M.aKv.en,enB, *,-h]
  ·simp +decide only[LC,LN,F,reduceIte,Nat.reduceAdd,qB,qC,EN,M.aKv.en,enB, *,-h]
  have bo:(List.set (List.map M.aKv.en x1.aKi) x3.toNat [.int .i64 x8.aKb,.val u])[x3.toNat]? = some [.int .i64 x8.aKb,.val u]:=Zq (b:=M.aKv.en x8) (by rw[List.getElem?_map,aa];rfl)
  refine bY (J:=λs=>s.t 5=V8/\s.t 10=V6/\s.t 12=V7/\s.t 13 = .v false [.dat (.int .i64 x3)]/\s.t 14 = .v false [.bp 14 1 0]/\s.h 5=V2/\s.h 10=V9/\s.h 12=V5/\s.h 14=V1/\s.h 100017=(1,.row 262 2 (List.set (List.map M.aKv.en x1.aKi) x3.toNat [.int .i64 x8.aKb,.val u]) true)/\s.h 400027=V4/\s.h 7057000=V3/\s.h 7058000=(1,.pin 7057000 1 u)/\True) zM ?_
  rintro bq f57
  obtain⟨br,ar,h⟩:=aA h
  apply Em mixed
  ·simp +decide only[LN,E,reduceIte,Nat.reduceAdd,Nat.reduceMul,qB,qC,L,ZR,Sv,Uz,La,TW,M.aKv.en,M.aK2.en,EN, *,-h]
   refine⟨by(have hb:=fJ ar);simp[M.aKv.en,M.aK2.en,qE,aP]at hb ⊢ <;> omega,?_⟩
   try simp +decide only[LN,E,reduceIte,Nat.reduceAdd,Nat.reduceMul,qB,qC,L,ZR,Sv,Uz,La,TW,M.aKv.en,M.aK2.en,EN, *,-h]
   exact⟨.mk wL,Is.mk _⟩
  refine an (sq (sq ?_))
  refine bY (J:=λs=>s.t 5=V8/\s.t 10=V6/\s.t 12=V7/\s.h 5=V2/\s.h 10=V9/\s.h 12=V5/\s.h 100017=(1,.row 262 2 (List.map M.aKv.en (List.set x1.aKi x3.toNat (⟨x8.aKb,x8.aKs++[(⟨p2,p3,x6⟩:M.aK2)]⟩:M.aKv))) true)/\True) zM ?_
  rintro bt f73
  obtain⟨av,al,h⟩:=aA h
  rcases gK (!av)with ah | ah
  ·replace h:=bQ ah h;refine xn1 (aBk.1 _ _ al) ?_;refine an ?_;refine yL zM ?_;refine sq ?_;obtain⟨bu,aw,h⟩:=aA h;refine xn1 (aDJ.1 _ _ aw) ?_;refine an (rt ?_);cases h;simp[Ret,EN,Sv,M.aKv.en, *]
  replace h:=bP ah h
  obtain⟨ax,ay,h⟩:=aA h
  refine xn2 (aBk.1 _ _ al) (aBk.1 _ _ ay) ?_
  refine an ?_
  rcases CP (!ax)with ai | ai
  ·replace h:=bP ai h;refine Ay zM ?_;refine sk (an (sq ?_));refine xn ?_;refine an (rt ?_);cases h;simp[Ret,EN,Sv,M.aKv.en, *]
  replace h:=bQ ai h
  refine yL zM ?_
  refine sq ?_
  obtain⟨bw,az,h⟩:=aA h
  refine xn1 (aDJ.1 _ _ az) ?_
  refine an (rt ?_)
  cases h
  simp[Ret,EN,Sv,M.aKv.en, *]
 replace h:=bQ af h
 refine yL zM ?_
 refine UO [5,10,12,13,14,15] [5,10,12,14,400027] (i:=100017) (ver:=1) (e:=262) (sz:=2) (xs:=List.map M.aKv.en x1.aKi) (j:=x3.toNat) (x:=M.aKv.en x8) (off:=1) (K:=7057000) (e':=264) (sz':=7) (ys:=List.map M.aK2.en x8.aKs) zM ?_ rfl ?_ rfl (.inl rfl) (λ_ h=>h.elim) we we we ?_ ?_ λu => ?_
 ·rw[List.getElem?_map,aa];rfl
 ·rw[<-(eH La).sl];rfl
 ·simp +decide only[LC,LN,F,reduceIte,Nat.reduceAdd,qB,qC,EN,M.aKv.en,enB, *,-h]
 ·simp +decide only[LC,LN,F,reduceIte,Nat.reduceAdd,qB,qC,EN,M.aKv.en,enB, *,-h]
 have ba:(List.set (List.map M.aKv.en x1.aKi) x3.toNat [.int .i64 x8.aKb,.val u])[x3.toNat]? = some [.int .i64 x8.aKb,.val u]:=Zq (b:=M.aKv.en x8) (by rw[List.getElem?_map,aa];rfl)
 refine bY (J:=λs=>s.t 5=V8/\s.t 10=V6/\s.t 12=V7/\s.t 13 = .v false [.dat (.int .i64 x3)]/\s.t 14 = .v false [.bp 14 1 0]/\s.t 15 = .v false [.dat (.int .i64 ae)]/\s.h 5=V2/\s.h 10=V9/\s.h 12=V5/\s.h 14=V1/\s.h 100017=(1,.row 262 2 (List.set (List.map M.aKv.en x1.aKi) x3.toNat [.int .i64 x8.aKb,.val u]) true)/\s.h 400027=V4/\s.h 7057000=V3/\s.h 7058000=(1,.pin 7057000 1 u)/\True) zM ?_
 rintro s16 f18
 obtain⟨bx,bd,h⟩:=aA h
 obtain⟨bz,ca,cc⟩:=pK bd
 refine xd mixed ?_
 refine an ?_
 refine Cj (Gho.close (i:=100017) (ver:=1) (e:=262) (sz:=2) (xs:=List.set (List.map M.aKv.en x1.aKi) x3.toNat [.int .i64 x8.aKb,.val u]) (j:=x3.toNat) (x:=[.int .i64 x8.aKb,.val u]) (off:=1) (K:=7057000) (vK:=1) (e':=264) (sz':=7) (ys:=List.map M.aK2.en (List.set x8.aKs ae.toNat (⟨p2,p3,x6⟩:M.aK2))) (u:=u) zM ba rfl zM zM (by rw[<-(eH La).sl];rfl) rfl we) ?_
 refine sq (sq ?_)
 refine bY (J:=λs=>s.t 5=V8/\s.t 10=V6/\s.t 12=V7/\s.h 5=V2/\s.h 10=V9/\s.h 12=V5/\s.h 100017=(1,.row 262 2 (List.map M.aKv.en (List.set x1.aKi x3.toNat (⟨x8.aKb,List.set x8.aKs ae.toNat (⟨p2,p3,x6⟩:M.aK2)⟩:M.aKv))) true)/\True) zM ?_
 rintro cd f38
 obtain⟨bf,ao,h⟩:=aA h
 rcases gK (!bf)with aj | aj
 ·replace h:=bQ aj h;refine xn1 (aBk.1 _ _ ao) ?_;refine an ?_;refine yL zM ?_;refine sq ?_;obtain⟨cg,bg,h⟩:=aA h;refine xn1 (aDJ.1 _ _ bg) ?_;refine an (rt ?_);cases h;simp[Ret,EN,Sv,M.aKv.en, *]
 replace h:=bP aj h
 obtain⟨bh,bj,h⟩:=aA h
 refine xn2 (aBk.1 _ _ ao) (aBk.1 _ _ bj) ?_
 refine an ?_
 rcases CP (!bh)with ak | ak
 ·replace h:=bP ak h;refine Ay zM ?_;refine sk (an (sq ?_));refine xn ?_;refine an (rt ?_);cases h;simp[Ret,EN,Sv,M.aKv.en, *]
 replace h:=bQ ak h
 refine yL zM ?_
 refine sq ?_
 obtain⟨cj,bl,h⟩:=aA h
 refine xn1 (aDJ.1 _ _ bl) ?_
 refine an (rt ?_)
 cases h
 simp[Ret,EN,Sv,M.aKv.en, *]⟩
instance:bU 344 (∀p0 r (h:E0 p0=some r),Sc 344 [(false,[.ptr [.sl (List.map enB p0.b),.int .i64 p0.i,.int .i64 p0.h]])] [(false,[.edit (.lend 138 [.int .i64 r.1,.int .i64 r.2.1])]),(true,M.bD.rs r.2.2)]):=⟨λp0 r h=>by
 unfold E0 at h
 simp only[EN]
 refine sgB 22 [.cell 2 98] func344 λbase wd B0 u0 hw0=> ?_
 refine bY (J:=λs=>s.t 0=vP 7059000 1 0/\s.h 7059000=(1,oB 138 [.old B0 (.sl (List.map enB p0.b)) (some u0),cI p0.i,cI p0.h])/\True) ?_ ?_
 ·and_intros<;>(try simp only[LN,jJ,jK])<;>rfl
 rintro s1 f2
 exact sgX⟩
instance:bU 372 (∀p0 p1 r (h:dQ p0 p1=some r),Sc 372 [aX (M.aO.en p0),aI p1] [(true,M.aO.rs r.1),rI r.2]):=⟨λp0 p1 r h=>by
 have i1:=λ(x1:M.aO)=>inv λm s=>∃v7:Int,(s.t 1=vI p1/\s.t 2=vP 2 1 0/\s.t 4=vP 4 1 0/\s.t 6=vP 6 1 0/\s.t 7=vI v7/\s.h 2=(1,oX 69 (M.aO.en p0))/\s.h 4=(1,oB 69 [cI 0,cI 0,.nil])/\s.h 6=(1,oB 69 [cI x1.aKk,cI x1.aLE,.row 300009 1])/\s.h 300009=(1,oW 182 7 M.cH.en x1.aKw))/\rQ p0 p1 x1 m v7=some r
 have e1:=@rQ.eq_2
 unfold dQ at h
 exact sgo 40 [.cell 4 69,.tmp 5] func372⟩
