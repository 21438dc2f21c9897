/-
  Helper text. No conditions.
-/
import Derived.Test.YtipmihbgjolaaaaGreatStorageTi
import Derived.Test.YtipmihbgjolaaaaGreatStorageWspec0
import Derived.Test.YtipmihbgjolaaaaGreatStorageWspec1
import Derived.Test.YtipmihbgjolaaaaGreatStorageWspec2
import Derived.Test.YtipmihbgjolaaaaGreatStorageWspec3
set_option linter.unusedVariables false
set_option linter.unusedSimpArgs false
namespace Go.Proofs.YtipmihbgjolaaaaGreat.gen
open Go Go.Sh
set_option maxRecDepth 20000
set_option maxHeartbeats 4000000
instance:bR 277 (∀p0 r (h:kU p0=some r),Sc 277 [aI p0] [(true,M.aF.rs r.1),rB r.2]):=⟨λp0 r h=>by unfold kU at h;exact sgo 12 [.cell 2 43,.tmp 3] Tryz.func277⟩
instance:bR 367 (∀p0 p1 r (h:wH p0 p1=some r),Sc 367 [aX (M.aA.en p0),aS p1] [rW 284 4 M.Zd.en r]):=⟨λp0 p1 r h=>by
 have i1:=CO [.t 5 7050000 284 4] λm s=>∃v6:Int,∃aa:List M.Zd,∃ae:Nat,(s.t 1=vS p1/\s.t 2=vP 2 1 0/\s.t 5=vR 7050000 ae/\s.t 6=vI v6/\s.h 2=(1,oX 40 (M.aA.en p0))/\s.h 7050000=(ae,oW 284 4 M.Zd.en aa))/\jE p0 p1 m v6 aa=some r
 have e1:=@jE.eq_2
 have i2:=λ(v6:Int) (aa:List M.Zd) (ah:M.Zd) (ai:Int->Option (List M.Zd)) (ae:Nat)=>inv λm s=>∃af:Int,(s.t 1=vS p1/\s.t 2=vP 2 1 0/\s.t 5=vR 7050000 ae/\s.t 6=vI v6/\s.t 9=vI af/\s.h 2=(1,oX 40 (M.aA.en p0))/\s.h 7050000=(ae,oW 284 4 M.Zd.en aa))/\lC p1 aa ah ai m af=some r
 have e2:=@lC.eq_2
 unfold wH at h
 exact sgo 72 [.tmp 4] Tryz.func367⟩
instance:bR 237 (∀p0 r (h:kT p0=some r),Sc 237 [aX (M.aD.en p0)] [rB r]):=⟨λp0 r h=>by unfold kT at h;exact sgo 23 [.tmp 2] Tryz.func237⟩
instance:bR 317 (∀p0 r (h:pO p0=some r),Sc 317 [aX (M.aA.en p0)] [rI r]):=⟨λp0 r h=>by
 have i1:=inv λm s=>∃v3:Int,∃v4:Int,(s.t 1=vP 1 1 0/\s.t 3=vI v3/\s.t 4=vI v4/\s.h 1=(1,oX 40 (M.aA.en p0)))/\iS p0 m v3 v4=some r
 have e1:=@iS.eq_2
 unfold pO at h
 exact sgo 32 [.tmp 2] Tryz.func317⟩
instance T5:bR 209 (∀p0 r (h:hJ p0=some r),Sc 209 [(false,[.ptr [.sl (List.map enB p0.b),.int .i64 p0.i,.int .i64 p0.h]])] [(false,[.edit (.lend 182 [.int .i64 r.1,.int .i64 r.2.1])]),(true,M.aC.rs r.2.2)]):=⟨λp0 r h=>by
 unfold hJ at h
 simp only[EN]
 refine sgB 22 [.cell 2 254] Tryz.func209 λbase wd B0 u0 hw0=> ?_
 refine gK (J:=λs=>s.t 0=vP 7059000 1 0/\s.h 7059000=(1,oB 182 [.old B0 (.sl (List.map enB p0.b)) (some u0),cI p0.i,cI p0.h])/\True) ?_ ?_
 ·and_intros<;>(try simp only[LN,List.map_cons,List.map_nil])<;>rfl
 rintro s1 f2
 have i1:=CO [.b 3 0 7050000 356 2] λm s=>∃v4:Int,∃aa:Int,∃ae:Int,∃af:List M.Field,∃ah:Nat,(s.t 0=vP 7059000 1 0/\s.t 2=vP 2 ((s1.h 2).1+1) 0/\s.t 3=vP 3 ((s1.h 3).1+1) 0/\s.t 4=vI v4/\s.h 2=((s1.h 2).1+1,oB 254 [.nil])/\s.h 3=((s1.h 3).1+1,oB 254 [.row 7050000 ah])/\s.h 7050000=(ah,oW 356 2 M.Field.en af)/\s.h 7059000=(1,oB 182 [.old B0 (.sl (List.map enB p0.b)) (some u0),cI aa,cI ae]))/\kH p0 m v4 aa ae af=some r
 have e1:=@kH.eq_2
 exact sgX⟩
instance:bR 134 (∀p0 r (h:tX p0=some r),Sc 134 [aX (M.bG.en p0)] [(true,M.bG.rs r)]):=⟨λp0 r h=>by unfold tX at h;exact sgo 13 [.cell 2 37] Tryz.func134⟩
instance:bR 341 (∀p0 r (h:wA p0=some r),Sc 341 [aL enB p0] [rW 22 1 (enL enB) r.1,rI r.2]):=⟨λp0 r h=>by
 have i1:=inv λm s=>∃v5:Int,∃aa:List (List Int),∃ae:Nat,(s.t 0=vL enB p0/\s.t 4=vR 100012 ae/\s.t 5=vI v5/\s.h 100012=(ae,oW 22 1 (enL enB) aa))/\oG p0 m v5 aa=some r
 have e1:=@oG.eq_2
 unfold wA at h
 exact sgo 50 [.tmp 2,.tmp 3] Tryz.func341⟩
instance:bR 401 (∀p0 r (h:lR p0=some r),Sc 401 [aL enB p0] [(true,M.aC.rs r.1),rB r.2]):=⟨λp0 r h=>by unfold lR at h;exact sgo 23 [.cell 2 254,.tmp 3] Tryz.func401⟩
instance:bR 280 (∀p0 r (h:pH p0=some r),Sc 280 [aL M.Op.en p0] [rW 5 1 enB r]):=⟨λp0 r h=>by
 have i1:=CO [.t 3 7050000 5 1] λm s=>∃v4:Int,∃aa:List Int,∃ae:Nat,(s.t 0=vL M.Op.en p0/\s.t 3=vR 7050000 ae/\s.t 4=vI v4/\s.h 7050000=(ae,oW 5 1 enB aa))/\lJ p0 m v4 aa=some r
 have e1:=@lJ.eq_2
 unfold pH at h
 exact sgo 64 [.tmp 2] Tryz.func280⟩
instance:bR 349 (∀p0 p1 p2 r (h:dI p0 p1 p2=some r),Sc 349 [aX (M.aA.en p0),aX (M.Key.en p1),aX (M.aC.en p2)] [(true,M.aA.rs r.1),rB r.2]):=⟨λp0 p1 p2 r h=>by
 have i1:=λ(aa:M.aA)=>inv λm s=>∃v10:Int,(s.t 3=vP 3 1 0/\s.t 4=vP 4 1 0/\s.t 5=vP 5 1 0/\s.t 6=vP 6 1 0/\s.t 8=vP 8 1 0/\s.t 10=vI v10/\s.h 3=(1,oX 40 (M.aA.en p0))/\s.h 4=(1,oX 209 (M.Key.en p1))/\s.h 5=(1,oX 254 (M.aC.en p2))/\s.h 6=(1,oB 40 [cS (⟨#[]⟩:ByteArray),.nil,cI 0])/\s.h 8=(1,oB 40 [cS aa.Name,.row 200028 1,cI aa.Zn])/\s.h 200028=(1,oW 284 4 M.Zd.en aa.Y3))/\lQ p0 p1 p2 aa m v10=some r
 have e1:=@lQ.eq_2
 unfold dI at h
 exact sgo 100 [.cell 6 40,.tmp 7] Tryz.func349⟩
instance:bR 402 (∀p0 p1 r (h:mX p0 p1=some r),Sc 402 [aX (M.aA.en p0),aX (M.eX.en p1)] [(true,M.aA.rs r.1),rI r.2]):=⟨λp0 p1 r h=>by
 have i1:=CO [.b 6 1 7050000 284 4] λm s=>∃v7:Int,∃aa:List M.Zd,∃ae:Nat,(s.t 2=vP 2 1 0/\s.t 3=vP 3 1 0/\s.t 4=vP 4 1 0/\s.t 6=vP 6 1 0/\s.t 7=vI v7/\s.h 2=(1,oX 40 (M.aA.en p0))/\s.h 3=(1,oX 426 (M.eX.en p1))/\s.h 4=(1,oB 40 [cS (⟨#[]⟩:ByteArray),.nil,cI 0])/\s.h 6=(1,oB 40 [cS p0.Name,.row 7050000 ae,cI p0.Zn])/\s.h 7050000=(ae,oW 284 4 M.Zd.en aa))/\fV p0 p1 m v7 aa=some r
 have e1:=@fV.eq_2
 unfold mX at h
 exact sgo 53 [.cell 4 40,.tmp 5] Tryz.func402⟩
instance:bR 217 (∀p0 p1 p2 r (h:pL p0 p1 p2=some r),Sc 217 [aL enB p0,aI p1,aL enB p2] [rW 5 1 enB r.1,rB r.2]):=⟨λp0 p1 p2 r h=>by unfold pL at h;exact sgo 29 [.tmp 6,.tmp 7] Tryz.func217⟩
instance:bR 282 (∀p0 p1 p2 p3 r (h:fW p0 p1 p2 p3=some r),Sc 282 [aX (M.aF.en p0),aX (M.Key.en p1),aS p2,aI p3] [(true,M.aF.rs r.1),rB r.2]):=⟨λp0 p1 p2 p3 r h=>by unfold fW at h;exact sgo 40 [.cell 8 43,.tmp 9] Tryz.func282⟩
instance TS:bR 212 (∀p0 p1 r (h:kZ p0 p1=some r),Sc 212 [aX (M.aE.en p0),aI p1] [(true,M.aE.rs r.1),rB r.2]):=⟨λp0 p1 r h=>by
 have i1:=λ(x1:M.aE)=>inv λm s=>∃v7:Int,(s.t 1=vI p1/\s.t 2=vP 2 1 0/\s.t 4=vP 4 1 0/\s.t 6=vP 6 1 0/\s.t 7=vI v7/\s.h 2=(1,oX 31 (M.aE.en p0))/\s.h 4=(1,oB 31 [.nil])/\s.h 6=(1,oB 31 [.row 100010 1])/\s.h 100010=(1,oW 193 2 M.Y6.en x1.Y1))/\jA p0 p1 x1 m v7=some r
 have e1:=@jA.eq_2
 unfold kZ at h
 exact sgo 57 [.cell 4 31,.tmp 5] Tryz.func212⟩
instance:bR 270 (∀p0 p1 p2 p3 p4 r (h:kR p0 p1 p2 p3 p4=some r),Sc 270 [aX (M.aE.en p0),aI p1,aS p2,aS p3,aX (M.Y7.en p4)] [(true,M.aE.rs r.1),rB r.2]):=⟨λp0 p1 p2 p3 p4 r h=>by
 unfold kR at h
 simp only[EN]
 refine sgO 73 [.cell 10 31,.tmp 11] Tryz.func270 λbase wd => ?_
 refine sq ?_
 apply iH
 ·simp +decide only[LN,E,reduceIte,Nat.reduceAdd,Nat.reduceMul,qB,qC,L,xY,EN];exact Is.mk _
 refine an (sq ?_)
 obtain⟨x1,h2,h⟩:=bind_some h
 apply iH
 ·simp +decide only[LN,E,reduceIte,Nat.reduceAdd,Nat.reduceMul,qB,qC,L,xY,EN]
  refine⟨_,SK.1 _ _ h2,?_⟩
  try simp +decide only[LN,E,reduceIte,Nat.reduceAdd,Nat.reduceMul,qB,qC,L,xY,EN]
  exact Is.mk _
 refine an (sq ?_)
 obtain⟨x3,h4,h⟩:=bind_some h
 apply iH
 ·simp +decide only[LN,E,reduceIte,Nat.reduceAdd,Nat.reduceMul,qB,qC,L,xY,EN]
  refine⟨_,YC _ _ _ h4,?_⟩
  try simp +decide only[LN,E,reduceIte,Nat.reduceAdd,Nat.reduceMul,qB,qC,L,xY,EN]
  exact Is.mk _
 refine an (sq (sq ?_))
 apply iH
 ·simp +decide only[LN,E,reduceIte,Nat.reduceAdd,Nat.reduceMul,qB,qC,L,EN];exact Is.mk _
 refine an ?_
 rcases jR (decide (x3<0))with b5 | b5
 ·replace h:=bX b5 h;refine FX (by simp +decide only[LN,F,reduceIte,Nat.reduceAdd,qB,qC,EN,b5]) ?_;refine sq ?_;apply iH;(simp +decide only[LN,E,reduceIte,Nat.reduceAdd,Nat.reduceMul,qB,qC,L,xY,EN,b5];exact Is.mk _);refine an (rt ?_);cases h;simp[Ret,EN,xY,M.Y6.en,b5]
 replace h:=bW b5 h
 refine HI (by simp +decide only[LN,F,reduceIte,Nat.reduceAdd,qB,qC,EN,b5]) ?_
 refine sk (an (sq ?_))
 obtain⟨x6,h7,h⟩:=bind_some h
 apply iH
 ·simp +decide only[LN,E,reduceIte,Nat.reduceAdd,Nat.reduceMul,qB,qC,L,Sp,HG,EN,b5]
  refine⟨_,Ux.1 _ _ h7,?_⟩
  try simp +decide only[LN,E,reduceIte,Nat.reduceAdd,Nat.reduceMul,qB,qC,L,Sp,HG,EN,b5]
  exact Is.mk _
 refine an (sq (sq ?_))
 obtain⟨x8,h9,h⟩:=bind_some h
 obtain⟨bm,aa,bn⟩:=pZ h9
 obtain⟨ae,aq,h⟩:=bind_some h
 apply iH
 ·simp +decide only[LN,E,reduceIte,Nat.reduceAdd,Nat.reduceMul,qB,qC,L,Ms,xY,Cy,M.Y6.en,EN, *,-h]
  refine⟨_,YH _ _ _ _ aq,?_⟩
  try simp +decide only[LN,E,reduceIte,Nat.reduceAdd,Nat.reduceMul,qB,qC,L,Ms,xY,Cy,M.Y6.en,EN, *,-h]
  exact Is.mk _
 refine an (sq ?_)
 apply iH
 ·simp +decide only[LN,E,reduceIte,Nat.reduceAdd,Nat.reduceMul,qB,qC,L,EN, *,-h];exact Is.mk _
 refine an ?_
 rcases AU (decide (ae>=0))with af | af
 ·replace h:=bW af h
  refine HI (by simp +decide only[LN,F,reduceIte,Nat.reduceAdd,qB,qC,EN, *,-h]) ?_
  refine Lo [5,10,12,13,14] [5,10,12,14,400027] (i:=100017) (ver:=1) (e:=193) (sz:=2) (xs:=List.map M.Y6.en x1.Y1) (j:=x3.toNat) (x:=M.Y6.en x8) (off:=1) (K:=7057000) (e':=195) (sz':=7) (ys:=List.map M.Zb.en x8.Y8) (by first | (simp +decide only[LN,F,reduceIte,Nat.reduceAdd,qB,qC,EN,M.Y6.en,enB, *,-h];done)| (simp +decide only[LN,F,reduceIte,Nat.reduceAdd,qB,qC,EN,M.Y6.en,enB, *,-h];rfl)| rfl) ?_ rfl ?_ rfl (.inl rfl) (λ_ h=>h.elim) qf qf qf ?_ ?_ λu => ?_
  ·rw[List.getElem?_map,aa];rfl
  ·rw[<-(cY Cy).sl];rfl
  ·simp +decide only[LC,LN,F,reduceIte,Nat.reduceAdd,qB,qC,EN,M.Y6.en,enB, *,-h]
  ·simp +decide only[LC,LN,F,reduceIte,Nat.reduceAdd,qB,qC,EN,M.Y6.en,enB, *,-h]
  have bo:(List.set (List.map M.Y6.en x1.Y1) x3.toNat [.int .i64 x8.Y2,.val u])[x3.toNat]? = some [.int .i64 x8.Y2,.val u]:=Px (b:=M.Y6.en x8) (by rw[List.getElem?_map,aa];rfl)
  refine gK (J:=λs=>s.t 5 = .v false [.bp 5 1 0]/\s.t 10 = .v false [.bp 10 1 0]/\s.t 12 = .v false [.bp 12 1 0]/\s.t 13 = .v false [.dat (.int .i64 x3)]/\s.t 14 = .v false [.bp 14 1 0]/\s.h 5=(1,.box 31 [.old base (.sl (List.map M.Y6.en p0.Y1)) none])/\s.h 10=(1,.box 31 [.nil])/\s.h 12=(1,.box 31 [.row 100017 1])/\s.h 14=(1,.box 195 [.dat (.str p2),.dat (.str p3),.dat (.int .i64 x6.ZC),.dat (.int .i64 x6.ZA),.dat (.int .i64 x6.Y2),.row 400027 1,.dat (.bool x6.ZF)])/\s.h 100017=(1,.row 193 2 (List.set (List.map M.Y6.en x1.Y1) x3.toNat [.int .i64 x8.Y2,.val u]) true)/\s.h 400027=(1,.row 5 1 (List.map enB x6.ZE) true)/\s.h 7057000=(1,.row 195 7 (List.map M.Zb.en x8.Y8) true)/\s.h 7058000=(1,.pin 7057000 1 u)/\True) ?_ ?_
  ·and_intros<;>(try first | (simp +decide only[LN,F,reduceIte,Nat.reduceAdd,qB,qC,EN,M.Y6.en,M.Zb.en,enB, *,-h];done)| (simp +decide only[LN,F,reduceIte,Nat.reduceAdd,qB,qC,EN,M.Y6.en,M.Zb.en,enB, *,-h];rfl)| rfl)
  rintro bq f57
  obtain⟨br,ar,h⟩:=bind_some h
  apply AM mixed
  ·simp +decide only[LN,E,reduceIte,Nat.reduceAdd,Nat.reduceMul,qB,qC,L,Ms,xY,JM,Cy,HG,M.Y6.en,M.Zb.en,EN, *,-h]
   refine⟨by(have hb:=kN ar);simp[M.Y6.en,M.Zb.en,qE,aP]at hb ⊢ <;> omega,?_⟩
   try simp +decide only[LN,E,reduceIte,Nat.reduceAdd,Nat.reduceMul,qB,qC,L,Ms,xY,JM,Cy,HG,M.Y6.en,M.Zb.en,EN, *,-h]
   exact⟨.mk qg,Is.mk _⟩
  refine an (sq (sq ?_))
  refine gK (J:=λs=>s.t 5 = .v false [.bp 5 1 0]/\s.t 10 = .v false [.bp 10 1 0]/\s.t 12 = .v false [.bp 12 1 0]/\s.h 5=(1,.box 31 [.old base (.sl (List.map M.Y6.en p0.Y1)) none])/\s.h 10=(1,.box 31 [.nil])/\s.h 12=(1,.box 31 [.row 100017 1])/\s.h 100017=(1,.row 193 2 (List.map M.Y6.en (List.set x1.Y1 x3.toNat (⟨x8.Y2,x8.Y8++[(⟨p2,p3,x6⟩:M.Zb)]⟩:M.Y6))) true)/\True) ?_ ?_
  ·and_intros<;>(try simp +decide only[LN,F,reduceIte,Nat.reduceAdd,qB,qC,EN,M.Y6.en, *,-h])
  rintro bt f73
  obtain⟨av,al,h⟩:=bind_some h
  rcases jR (!av)with ah | ah
  ·replace h:=bX ah h
   apply iH
   ·simp +decide only[LN,E,reduceIte,Nat.reduceAdd,Nat.reduceMul,qB,qC,L,xY,EN, *,-h]
    refine⟨_,Rs.1 _ _ al,?_⟩
    try simp +decide only[LN,E,reduceIte,Nat.reduceAdd,Nat.reduceMul,qB,qC,L,xY,EN, *,-h]
    exact Is.mk _
   refine an ?_
   refine FX (by simp +decide only[LN,F,reduceIte,Nat.reduceAdd,qB,qC,EN, *,-h]) ?_
   refine sq ?_
   obtain⟨bu,aw,h⟩:=bind_some h
   apply iH
   ·simp +decide only[LN,E,reduceIte,Nat.reduceAdd,Nat.reduceMul,qB,qC,L,xY,EN, *,-h]
    refine⟨_,SK.1 _ _ aw,?_⟩
    try simp +decide only[LN,E,reduceIte,Nat.reduceAdd,Nat.reduceMul,qB,qC,L,xY,EN, *,-h]
    exact Is.mk _
   refine an (rt ?_)
   cases h
   simp[Ret,EN,xY,M.Y6.en, *]
  replace h:=bW ah h
  obtain⟨ax,ay,h⟩:=bind_some h
  apply iH
  ·simp +decide only[LN,E,reduceIte,Nat.reduceAdd,Nat.reduceMul,qB,qC,L,xY,EN, *,-h]
   refine⟨_,Rs.1 _ _ al,?_⟩
   try simp +decide only[LN,E,reduceIte,Nat.reduceAdd,Nat.reduceMul,qB,qC,L,xY,EN, *,-h]
   refine⟨_,Rs.1 _ _ ay,?_⟩
   try simp +decide only[LN,E,reduceIte,Nat.reduceAdd,Nat.reduceMul,qB,qC,L,xY,EN, *,-h]
   exact Is.mk _
  refine an ?_
  rcases AU (!ax)with ai | ai
  ·replace h:=bW ai h;refine HI (by simp +decide only[LN,F,reduceIte,Nat.reduceAdd,qB,qC,EN, *,-h]) ?_;refine sk (an (sq ?_));apply iH;(simp +decide only[LN,E,reduceIte,Nat.reduceAdd,Nat.reduceMul,qB,qC,L,xY,EN, *,-h];exact Is.mk _);refine an (rt ?_);cases h;simp[Ret,EN,xY,M.Y6.en, *]
  replace h:=bX ai h
  refine FX (by simp +decide only[LN,F,reduceIte,Nat.reduceAdd,qB,qC,EN, *,-h]) ?_
  refine sq ?_
  obtain⟨bw,az,h⟩:=bind_some h
  apply iH
  ·simp +decide only[LN,E,reduceIte,Nat.reduceAdd,Nat.reduceMul,qB,qC,L,xY,EN, *,-h]
   refine⟨_,SK.1 _ _ az,?_⟩
   try simp +decide only[LN,E,reduceIte,Nat.reduceAdd,Nat.reduceMul,qB,qC,L,xY,EN, *,-h]
   exact Is.mk _
  refine an (rt ?_)
  cases h
  simp[Ret,EN,xY,M.Y6.en, *]
 replace h:=bX af h
 refine FX (by simp +decide only[LN,F,reduceIte,Nat.reduceAdd,qB,qC,EN, *,-h]) ?_
 refine Lo [5,10,12,13,14,15] [5,10,12,14,400027] (i:=100017) (ver:=1) (e:=193) (sz:=2) (xs:=List.map M.Y6.en x1.Y1) (j:=x3.toNat) (x:=M.Y6.en x8) (off:=1) (K:=7057000) (e':=195) (sz':=7) (ys:=List.map M.Zb.en x8.Y8) (by first | (simp +decide only[LN,F,reduceIte,Nat.reduceAdd,qB,qC,EN,M.Y6.en,enB, *,-h];done)| (simp +decide only[LN,F,reduceIte,Nat.reduceAdd,qB,qC,EN,M.Y6.en,enB, *,-h];rfl)| rfl) ?_ rfl ?_ rfl (.inl rfl) (λ_ h=>h.elim) qf qf qf ?_ ?_ λu => ?_
 ·rw[List.getElem?_map,aa];rfl
 ·rw[<-(cY Cy).sl];rfl
 ·simp +decide only[LC,LN,F,reduceIte,Nat.reduceAdd,qB,qC,EN,M.Y6.en,enB, *,-h]
 ·simp +decide only[LC,LN,F,reduceIte,Nat.reduceAdd,qB,qC,EN,M.Y6.en,enB, *,-h]
 have ba:(List.set (List.map M.Y6.en x1.Y1) x3.toNat [.int .i64 x8.Y2,.val u])[x3.toNat]? = some [.int .i64 x8.Y2,.val u]:=Px (b:=M.Y6.en x8) (by rw[List.getElem?_map,aa];rfl)
 refine gK (J:=λs=>s.t 5 = .v false [.bp 5 1 0]/\s.t 10 = .v false [.bp 10 1 0]/\s.t 12 = .v false [.bp 12 1 0]/\s.t 13 = .v false [.dat (.int .i64 x3)]/\s.t 14 = .v false [.bp 14 1 0]/\s.t 15 = .v false [.dat (.int .i64 ae)]/\s.h 5=(1,.box 31 [.old base (.sl (List.map M.Y6.en p0.Y1)) none])/\s.h 10=(1,.box 31 [.nil])/\s.h 12=(1,.box 31 [.row 100017 1])/\s.h 14=(1,.box 195 [.dat (.str p2),.dat (.str p3),.dat (.int .i64 x6.ZC),.dat (.int .i64 x6.ZA),.dat (.int .i64 x6.Y2),.row 400027 1,.dat (.bool x6.ZF)])/\s.h 100017=(1,.row 193 2 (List.set (List.map M.Y6.en x1.Y1) x3.toNat [.int .i64 x8.Y2,.val u]) true)/\s.h 400027=(1,.row 5 1 (List.map enB x6.ZE) true)/\s.h 7057000=(1,.row 195 7 (List.map M.Zb.en x8.Y8) true)/\s.h 7058000=(1,.pin 7057000 1 u)/\True) ?_ ?_
 ·and_intros<;>(try first | (simp +decide only[LN,F,reduceIte,Nat.reduceAdd,qB,qC,EN,M.Y6.en,M.Zb.en,enB, *,-h];done)| (simp +decide only[LN,F,reduceIte,Nat.reduceAdd,qB,qC,EN,M.Y6.en,M.Zb.en,enB, *,-h];rfl)| rfl)
 rintro s16 f18
 obtain⟨bx,bd,h⟩:=bind_some h
 obtain⟨bz,ca,cc⟩:=pZ bd
 apply AM mixed
 ·simp +decide only[LN,E,reduceIte,Nat.reduceAdd,Nat.reduceMul,qB,qC,L,Ms,xY,JM,Cy,HG,M.Y6.en,M.Zb.en,EN, *,-h];exact⟨.mk qg,Is.mk _⟩
 refine an ?_
 refine FA (Gho.close (i:=100017) (ver:=1) (e:=193) (sz:=2) (xs:=List.set (List.map M.Y6.en x1.Y1) x3.toNat [.int .i64 x8.Y2,.val u]) (j:=x3.toNat) (x:=[.int .i64 x8.Y2,.val u]) (off:=1) (K:=7057000) (vK:=1) (e':=195) (sz':=7) (ys:=List.map M.Zb.en (List.set x8.Y8 ae.toNat (⟨p2,p3,x6⟩:M.Zb))) (u:=u) (by first | (simp +decide only[LN,F,reduceIte,Nat.reduceAdd,qB,qC,EN,M.Zb.en, *,-h];done)| (simp +decide only[LN,F,reduceIte,Nat.reduceAdd,qB,qC,EN,M.Zb.en, *,-h];rfl)| rfl) ba rfl (by first | (simp +decide only[LN,F,reduceIte,Nat.reduceAdd,qB,qC,EN,M.Zb.en, *,-h];done)| (simp +decide only[LN,F,reduceIte,Nat.reduceAdd,qB,qC,EN,M.Zb.en, *,-h];rfl)| rfl) (by first | (simp +decide only[LN,F,reduceIte,Nat.reduceAdd,qB,qC,EN,M.Zb.en, *,-h];done)| (simp +decide only[LN,F,reduceIte,Nat.reduceAdd,qB,qC,EN,M.Zb.en, *,-h];rfl)| rfl) (by rw[<-(cY Cy).sl];rfl) rfl qf) ?_
 refine sq (sq ?_)
 refine gK (J:=λs=>s.t 5 = .v false [.bp 5 1 0]/\s.t 10 = .v false [.bp 10 1 0]/\s.t 12 = .v false [.bp 12 1 0]/\s.h 5=(1,.box 31 [.old base (.sl (List.map M.Y6.en p0.Y1)) none])/\s.h 10=(1,.box 31 [.nil])/\s.h 12=(1,.box 31 [.row 100017 1])/\s.h 100017=(1,.row 193 2 (List.map M.Y6.en (List.set x1.Y1 x3.toNat (⟨x8.Y2,List.set x8.Y8 ae.toNat (⟨p2,p3,x6⟩:M.Zb)⟩:M.Y6))) true)/\True) ?_ ?_
 ·and_intros<;>(try simp +decide only[LN,F,reduceIte,Nat.reduceAdd,qB,qC,EN,M.Y6.en, *,-h])
 rintro cd f38
 obtain⟨bf,ao,h⟩:=bind_some h
 rcases jR (!bf)with aj | aj
 ·replace h:=bX aj h
  apply iH
  ·simp +decide only[LN,E,reduceIte,Nat.reduceAdd,Nat.reduceMul,qB,qC,L,xY,EN, *,-h]
   refine⟨_,Rs.1 _ _ ao,?_⟩
   try simp +decide only[LN,E,reduceIte,Nat.reduceAdd,Nat.reduceMul,qB,qC,L,xY,EN, *,-h]
   exact Is.mk _
  refine an ?_
  refine FX (by simp +decide only[LN,F,reduceIte,Nat.reduceAdd,qB,qC,EN, *,-h]) ?_
  refine sq ?_
  obtain⟨cg,bg,h⟩:=bind_some h
  apply iH
  ·simp +decide only[LN,E,reduceIte,Nat.reduceAdd,Nat.reduceMul,qB,qC,L,xY,EN, *,-h]
   refine⟨_,SK.1 _ _ bg,?_⟩
   try simp +decide only[LN,E,reduceIte,Nat.reduceAdd,Nat.reduceMul,qB,qC,L,xY,EN, *,-h]
   exact Is.mk _
  refine an (rt ?_)
  cases h
  simp[Ret,EN,xY,M.Y6.en, *]
 replace h:=bW aj h
 obtain⟨bh,bj,h⟩:=bind_some h
 apply iH
 ·simp +decide only[LN,E,reduceIte,Nat.reduceAdd,Nat.reduceMul,qB,qC,L,xY,EN, *,-h]
  refine⟨_,Rs.1 _ _ ao,?_⟩
  try simp +decide only[LN,E,reduceIte,Nat.reduceAdd,Nat.reduceMul,qB,qC,L,xY,EN, *,-h]
  refine⟨_,Rs.1 _ _ bj,?_⟩
  try simp +decide only[LN,E,reduceIte,Nat.reduceAdd,Nat.reduceMul,qB,qC,L,xY,EN, *,-h]
  exact Is.mk _
 refine an ?_
 rcases AU (!bh)with ak | ak
 ·replace h:=bW ak h;refine HI (by simp +decide only[LN,F,reduceIte,Nat.reduceAdd,qB,qC,EN, *,-h]) ?_;refine sk (an (sq ?_));apply iH;(simp +decide only[LN,E,reduceIte,Nat.reduceAdd,Nat.reduceMul,qB,qC,L,xY,EN, *,-h];exact Is.mk _);refine an (rt ?_);cases h;simp[Ret,EN,xY,M.Y6.en, *]
 replace h:=bX ak h
 refine FX (by simp +decide only[LN,F,reduceIte,Nat.reduceAdd,qB,qC,EN, *,-h]) ?_
 refine sq ?_
 obtain⟨cj,bl,h⟩:=bind_some h
 apply iH
 ·simp +decide only[LN,E,reduceIte,Nat.reduceAdd,Nat.reduceMul,qB,qC,L,xY,EN, *,-h]
  refine⟨_,SK.1 _ _ bl,?_⟩
  try simp +decide only[LN,E,reduceIte,Nat.reduceAdd,Nat.reduceMul,qB,qC,L,xY,EN, *,-h]
  exact Is.mk _
 refine an (rt ?_)
 cases h
 simp[Ret,EN,xY,M.Y6.en, *]⟩
instance:bR 358 (∀p0 r (h:xB p0=some r),Sc 358 [(false,[.ptr [.sl (List.map enB p0.b),.int .i64 p0.i,.int .i64 p0.h]])] [(false,[.edit (.lend 182 [.int .i64 r.1,.int .i64 r.2.1])]),(true,M.Key.rs r.2.2)]):=⟨λp0 r h=>by
 unfold xB at h
 simp only[EN]
 refine sgB 22 [.cell 2 209] Tryz.func358 λbase wd B0 u0 hw0=> ?_
 refine gK (J:=λs=>s.t 0=vP 7059000 1 0/\s.h 7059000=(1,oB 182 [.old B0 (.sl (List.map enB p0.b)) (some u0),cI p0.i,cI p0.h])/\True) ?_ ?_
 ·and_intros<;>(try simp only[LN,List.map_cons,List.map_nil])<;>rfl
 rintro s1 f2
 exact sgX⟩
instance:bR 85 (∀p0 r (h:oU p0=some r),Sc 85 [aX (M.Zk.en p0)] [rB r]):=⟨λp0 r h=>by
 have i1:=inv λm s=>∃v3:Int,(s.t 1=vP 1 1 0/\s.t 3=vI v3/\s.h 1=(1,oX 137 (M.Zk.en p0)))/\fN p0 m v3=some r
 have e1:=@fN.eq_2
 have i2:=inv λm s=>∃v4:Int,(s.t 1=vP 1 1 0/\s.t 4=vI v4/\s.h 1=(1,oX 137 (M.Zk.en p0)))/\gT p0 m v4=some r
 have e2:=@gT.eq_2
 unfold oU at h
 exact sgo 79 [.tmp 2] Tryz.func85⟩
instance:bR 354 (∀p0 p1 r (h:cE p0 p1=some r),Sc 354 [aX (M.aF.en p0),aI p1] [(true,M.aF.rs r.1),rI r.2]):=⟨λp0 p1 r h=>by
 have i1:=λ(x1:M.aF)=>inv λm s=>∃v7:Int,(s.t 1=vI p1/\s.t 2=vP 2 1 0/\s.t 4=vP 4 1 0/\s.t 6=vP 6 1 0/\s.t 7=vI v7/\s.h 2=(1,oX 43 (M.aF.en p0))/\s.h 4=(1,oB 43 [cI 0,cI 0,.nil])/\s.h 6=(1,oB 43 [cI x1.Zg,cI x1.Zr,.row 300009 1])/\s.h 300009=(1,oW 211 7 M.aV.en x1.Y9))/\lE p0 p1 x1 m v7=some r
 have e1:=@lE.eq_2
 unfold cE at h
 exact sgo 40 [.cell 4 43,.tmp 5] Tryz.func354⟩
theorem c13(p0 p1 r)(h:iW p0 p1=some r):Sc 13 [aX (M.aK.en p0),aX (M.aK.en p1)] [rB r]:=by unfold iW at h;exact sgo 59 [.tmp 4] Tryz.func13
instance:bR 154 (∀p0 p1 r (h:uW p0 p1=some r),Sc 154 [(false,[.ptr [.sl (List.map enB p0.b),.int .i64 p0.i,.int .i64 p0.h]]),aI p1] [(false,[.edit (.lend 182 [.int .i64 r.1,.int .i64 r.2.1])]),(true,M.Instr.rs r.2.2)]):=⟨λp0 p1 r h=>by
 unfold uW at h
 simp only[EN]
 refine sgB 59 [.cell 4 216] Tryz.func154 λbase wd B0 u0 hw0=> ?_
 refine gK (J:=λs=>s.t 0=vP 7059000 1 0/\s.t 1=vI p1/\s.h 7059000=(1,oB 182 [.old B0 (.sl (List.map enB p0.b)) (some u0),cI p0.i,cI p0.h])/\True) ?_ ?_
 ·and_intros<;>(try simp only[LN,List.map_cons,List.map_nil])<;>rfl
 rintro s1 f2
 exact sgX⟩
instance:bR 153 (∀p0 r (h:sN p0=some r),Sc 153 [aL M.Instr.en p0] [(true,M.Zc.rs r)]):=⟨λp0 r h=>by unfold sN at h;exact sgo 15 [.cell 2 94] Tryz.func153⟩
end Go.Proofs.YtipmihbgjolaaaaGreat.gen
