/-
  Helper text. No conditions.
-/
import Derived.Test.YtbpbocchokbggaaGreatOpenedWimpl2
set_option linter.all false
namespace Go.Proofs.YtbpbocchokbggaaGreat.gen
open Go Go.Sh
set_option maxRecDepth 20000
set_option maxHeartbeats 4000000
instance:bK 281 (∀p0 r (h:vE p0=some r),Sc 281 [aX (M.aF.en p0)] [(true,M.aF.rs r)]):=⟨λp0 r h=>by
 have i1:=ES [.b 3 0 7050100 345 2] λm s=>∃aj:Int,∃ah:List M.aHM,∃aa:Nat,(s.t 2=vP 2 1 0/\s.t 3=vP 3 1 0/\s.t 11=vL M.aHM.en p0.aHC/\s.t 12=vI (List.length p0.aHC:Int)/\s.t 13=vI aj/\s.h 2=(1,oB 108 [.nil])/\s.h 3=(1,oB 108 [.row 7050100 aa])/\s.h 7050100=(aa,oW 345 2 M.aHM.en ah))/\eN p0 m aj ah=some r
 have e1:=@eN.eq_2
 have i2:=λ(aj:Int) (ah:List M.aHM) (ak:M.aHM) (al:Int->List M.aHU->Option M.aF) (s1:St) (aa:Nat)=>ES [.b 6 1 7050000 351 7] λm s=>∃ai:Int,∃ae:List M.aHU,∃af:Nat,(s.t 2=vP 2 1 0/\s.t 3=vP 3 1 0/\s.t 6=vP 6 ((s1.h 6).1+1) 0/\s.t 11=vL M.aHM.en p0.aHC/\s.t 12=vI (List.length p0.aHC:Int)/\s.t 13=vI aj/\s.t 21=vL M.aHU.en ak.aHS/\s.t 22=vI (List.length ak.aHS:Int)/\s.t 23=vI ai/\s.h 2=(1,oB 108 [.nil])/\s.h 3=(1,oB 108 [.row 7050100 aa])/\s.h 6=((s1.h 6).1+1,oB 345 [cI ak.aHA,.row 7050000 af])/\s.h 7050000=(af,oW 351 7 M.aHU.en ae)/\s.h 7050100=(aa,oW 345 2 M.aHM.en ah))/\gW ak al m ai ae=some r
 have e2:=@gW.eq_2
 unfold vE at h
 exact sgo 46 [.cell 2 108] Tryz.func281⟩
instance:bK 326 (∀p0 r (h:tO p0=some r),Sc 326 [aX (M.aC.en p0)] [(true,M.aC.rs r)]):=⟨λp0 r h=>by
 have i1:=ES [.b 3 1 7050000 260 4] λm s=>∃af:Int,∃aa:List M.aHV,∃ae:Nat,(s.t 2=vP 2 1 0/\s.t 3=vP 3 1 0/\s.t 12=vL M.aHV.en p0.aHF/\s.t 13=vI (List.length p0.aHF:Int)/\s.t 14=vI af/\s.h 2=(1,oB 117 [cS (⟨#[]⟩:ByteArray),.nil,cI 0])/\s.h 3=(1,oB 117 [cS p0.Name,.row 7050000 ae,cI p0.aHg])/\s.h 7050000=(ae,oW 260 4 M.aHV.en aa))/\lZ p0 m af aa=some r
 have e1:=@lZ.eq_2
 unfold tO at h
 exact sgo 27 [.cell 2 117] Tryz.func326⟩
instance:bK 184 (∀p0 r (h:zR p0=some r),Sc 184 [aL M.bC.en p0] [rW 67 11 M.bC.en r]):=⟨λp0 r h=>by
 have i1:=inv λm s=>∃v9:Int,∃r6:List M.bC,∃u6:Nat,(s.t 3=vR 100006 u6/\s.t 7=vL M.bC.en p0/\s.t 8=vI (List.length p0:Int)/\s.t 9=vI v9/\s.h 100006=(u6,oW 67 11 M.bC.en r6))/\mG p0 m v9 r6=some r
 have e1:=@mG.eq_2
 unfold zR at h
 exact sgo 20 [.tmp 2] Tryz.func184⟩
instance aAQ:bK 345 (∀p0 r (h:cH p0=some r),Sc 345 [aS p0] [rB r]):=⟨λp0 r h=>by unfold cH at h;exact sgo 5 [.tmp 2] Tryz.func345⟩
instance:bK 476 (∀p0 p1 r (h:sM p0 p1=some r),Sc 476 [aX (M.Key.en p0),aX (M.Key.en p1)] [rI r]):=⟨λp0 p1 r h=>by unfold sM at h;exact sgo 36 [.tmp 4] Tryz.func476⟩
instance:bK 528 (∀p0 p1 r (h:nZ p0 p1=some r),Sc 528 [aX (M.aD.en p0),aS p1] [rI r.1,rB r.2]):=⟨λp0 p1 r h=>by unfold nZ at h;exact sgo 18 [.tmp 4,.tmp 5] Tryz.func528⟩
instance:bK 349 (∀p0 r (h:Ad p0=some r),Sc 349 [aX (M.Key.en p0)] [rW 5 1 enB r]):=⟨λp0 r h=>by
 have i1:=inv λm s=>∃v4:Int,∃aa:List Int,∃ae:Nat,(s.t 1=vP 1 1 0/\s.t 3=vR 100012 ae/\s.t 4=vI v4/\s.h 1=(1,oX 136 (M.Key.en p0))/\s.h 100012=(ae,oW 5 1 enB aa))/\gF p0 m v4 aa=some r
 have e1:=@gF.eq_2
 unfold Ad at h
 exact sgo 34 [.tmp 2] Tryz.func349⟩
instance:bK 351 (∀p0 p1 r (h:xD p0 p1=some r),Sc 351 [aL enB p0,aL enB p1] [rW 5 1 enB r]):=⟨λp0 p1 r h=>by unfold xD at h;exact sgo 11 [.tmp 4] Tryz.func351⟩
instance:bK 381 (∀p0 r (h:yA p0=some r),Sc 381 [aS p0] [rB r]):=⟨λp0 r h=>by unfold yA at h;exact sgo 5 [.tmp 2] Tryz.func381⟩
theorem aGE(C:M.World)(I:ByteArray)(J:ByteArray)(r:(M.aHD×Bool))(h:rX C I J=some r)(j:r.2=false):gL Tryz.prog 59 [(true,M.World.en C),(false,[.str I]),(false,[.str J])] [(true,[.ro (.str r.1.aHL),.ro (.str r.1.Top),.ro (.str r.1.aG9.aHL),.ro (.int .i64 r.1.aG9.aHf),.ro (.int .i64 r.1.aG9.aHm),.ro (.int .i64 r.1.aG9.aHp),.own 345 2 (List.map M.aHM.en r.1.aHC.aHC),.ro (.str r.1.bP.aHa.Name),.ro (.int .i64 r.1.bP.aHa.aHA),.own 117 3 (List.map M.aC.en r.1.bP.aHa.aHP),.own 471 2 (List.map M.aN.en r.1.bP.aHa.aHX),.own 5 1 (List.map enB r.1.bP.Log),.ro (.int .i64 r.1.bP.aHs),.ro (.str r.1.aE.aHa.Name),.own 260 4 (List.map M.aHV.en r.1.aE.aHa.aHF),.ro (.int .i64 r.1.aE.aHa.aHg),.ro (.int .i64 r.1.aE.aHw),.ro (.int .i64 r.1.aE.aHY.aJ.aHI),.ro (.int .i64 r.1.aE.aHY.aJ.aHj),.own 328 7 (List.map M.bB.en r.1.aE.aHY.aJ.aHW),.ro (.int .i64 r.1.aE.aHY.aHr),.ro (.int .i64 r.1.aE.aHY.aHe),.ro (.int .i64 r.1.aHk),.ro (.bool r.1.aHh)]),(false,[.ro (.bool r.2)])]:=by
 unfold rX at h
 simp only[M.World.en]
 refine NZ (N:=23) (vars:=[.cell 6 126,.tmp 7]) Tryz.func59 rfl rfl rfl jJ (Nat.le_of_ble_eq_true rfl) λbase wd=> ?_
 refine sq ?_
 apply bE
 ·simp+decide only[E,reduceIte,Nat.reduceAdd,Nat.reduceMul,qB,qC,L,HX,EN];exact Is.mk _
 refine an (sq ?_)
 obtain⟨x1,h2,h⟩:=bind_some h
 apply bE
 ·simp+decide only[E,reduceIte,Nat.reduceAdd,Nat.reduceMul,qB,qC,L,RL,BM,EN]
  refine⟨_,aAc.1 _ _ _ _ h2,?_⟩
  try simp+decide only[E,reduceIte,Nat.reduceAdd,Nat.reduceMul,qB,qC,L,RL,BM,EN]
  exact Is.mk _
 refine an (sq (sq ?_))
 apply bE
 ·simp+decide only[E,reduceIte,Nat.reduceAdd,Nat.reduceMul,qB,qC,L,EN];exact Is.mk _
 refine an ?_
 rcases dP (decide (x1<0))with b3|b3
 ·replace h:=bG b3 h;refine CE (by simp+decide only[F,reduceIte,Nat.reduceAdd,qB,qC,b3]) ?_;refine sq ?_;apply bE;(simp+decide only[E,reduceIte,Nat.reduceAdd,Nat.reduceMul,qB,qC,L,HX,EN,b3];exact Is.mk _);refine an (rt ?_);cases h;simp[Ret,EN,HX,M.aHM.en,M.aN.en,M.aHV.en,M.aC.en,M.bB.en,enB,b3]
 replace h:=bF b3 h
 refine Dk (by simp+decide only[F,reduceIte,Nat.reduceAdd,qB,qC,b3]) ?_
 refine sk (an (sq ?_))
 obtain⟨x4,h5,h⟩:=bind_some h
 obtain⟨U,q7,q8⟩:=rR h5
 apply bE
 ·simp+decide only[E,reduceIte,Nat.reduceAdd,Nat.reduceMul,qB,qC,L,aA8,RL,BM,HX,M.aHD.en,EN,b3,U,q7,q8];exact Is.mk _
 refine an (rt ?_)
 cases h
 exact absurd j jH
theorem aG3(C:M.World)(U:ByteArray)(p2:ByteArray)(r:(M.aHD×Bool))(h:rX C U p2=some r)(j:r.2=true):∃k,C.aA.aHE[k]? =some r.1/\gL Tryz.prog 59 [(true,M.World.en C),(false,[.str U]),(false,[.str p2])] [(false,[.edit (.sel 3 k 24)])]:=by
 obtain⟨x,I⟩:∃x,iZ C.aA U p2=some x:=by unfold rX at h;obtain⟨x,I,_⟩:=bind_some h;exact⟨x,I⟩
 have hk:C.aA.aHE[x.toNat]? =some r.1:=by unfold rX at h;rw[I,qA]at h;split at h;(cases h;cases j);·obtain⟨y,hy,h⟩:=bind_some h;cases h;exact(rR hy).2.1
 refine⟨x.toNat,hk,?_⟩
 unfold rX at h
 simp only[M.World.en]
 refine ZT (cc:=3) (k:=x.toNat) (sz:=24) (y:=M.aHD.en r.1) (N:=23) (vars:=[.cell 6 126,.tmp 7]) Tryz.func59 rfl rfl rfl jJ (Nat.le_of_ble_eq_true rfl) rfl (by rw[List.getElem?_map,hk];rfl) rfl λbase wd uv=> ?_
 try simp only[M.World.en]
 refine sq ?_
 apply bE
 ·simp+decide only[LS,List.set_cons_zero,List.set_cons_succ,E,reduceIte,Nat.reduceAdd,Nat.reduceMul,qB,qC,L,HX,EN];exact Is.mk _
 refine an (sq ?_)
 obtain⟨x1,h2,h⟩:=bind_some h
 apply bE
 ·simp+decide only[LS,List.set_cons_zero,List.set_cons_succ,E,reduceIte,Nat.reduceAdd,Nat.reduceMul,qB,qC,L,RL,BM,EN]
  refine⟨_,aAc.1 _ _ _ _ h2,?_⟩
  try simp+decide only[LS,List.set_cons_zero,List.set_cons_succ,E,reduceIte,Nat.reduceAdd,Nat.reduceMul,qB,qC,L,RL,BM,EN]
  exact Is.mk _
 refine an (sq (sq ?_))
 apply bE
 ·simp+decide only[LS,List.set_cons_zero,List.set_cons_succ,E,reduceIte,Nat.reduceAdd,Nat.reduceMul,qB,qC,L,EN];exact Is.mk _
 refine an ?_
 rcases dP (decide (x1<0))with b3|b3
 ·replace h:=bG b3 h;refine CE (by simp+decide only[LS,F,reduceIte,Nat.reduceAdd,qB,qC,b3]) ?_;refine sq ?_;apply bE;(simp+decide only[LS,List.set_cons_zero,List.set_cons_succ,E,reduceIte,Nat.reduceAdd,Nat.reduceMul,qB,qC,L,HX,EN,b3];exact Is.mk _);refine an (rt ?_);cases h;exact absurd j jH
 replace h:=bF b3 h
 refine Dk (by simp+decide only[LS,F,reduceIte,Nat.reduceAdd,qB,qC,b3]) ?_
 refine sk (an (sq ?_))
 obtain⟨x4,h5,h⟩:=bind_some h
 obtain⟨q6,q7,q8⟩:=rR h5
 apply bE
 ·simp+decide only[LS,List.set_cons_zero,List.set_cons_succ,E,reduceIte,Nat.reduceAdd,Nat.reduceMul,qB,qC,L,aA8,RL,BM,HX,M.aHD.en,EN,b3,q6,q7,q8];exact Is.mk _
 refine an (rt ?_)
 have J:x=x1:=qd (I.symm.trans h2)
 cases h
 simp[J,aBQ,LS,Bh,M.aHD.en,HX,b3,q6,q7,q8]
theorem c98(p0 p1 r)(h:zL p0 p1=some r):Sc 98 [aX (M.World.en p0),aS p1] [(true,M.aHL.ra r)]:=by unfold zL at h;exact sgo 23 [.cell 4 92] Tryz.func98
instance:bK 150 (∀p0 p1 p2 p3 r (h:zA p0 p1 p2 p3=some r),Sc 150 [aX (M.aF.en p0),aI p1,aS p2,aS p3] [(true,M.aHH.rs r.1),rB r.2]):=⟨λp0 p1 p2 p3 r h=>by unfold zA at h;exact sgo 40 [.cell 8 189,.tmp 9] Tryz.func150⟩
instance:bK 389 (∀p0 p1 r (h:Bt p0 p1=some r),Sc 389 [aX (M.aHL.en p0),aS p1] [rB r]):=⟨λp0 p1 r h=>by unfold Bt at h;exact sgo 9 [.tmp 4] Tryz.func389⟩
instance:bK 446 (∀p0 r (h:DU p0=some r),Sc 446 [aL enI p0] [rI r]):=⟨λp0 r h=>by
 have i1:=inv λm s=>∃v3:Int,∃v8:Int,(s.t 3=vI v3/\s.t 6=vL enI p0/\s.t 7=vI (List.length p0:Int)/\s.t 8=vI v8)/\xS p0 m v3 v8=some r
 have e1:=@xS.eq_2
 unfold DU at h
 exact sgo 21 [.tmp 2] Tryz.func446⟩
instance:bK 609 (∀p0 p1 r (h:sB p0 p1=some r),Sc 609 [aX (M.aHH.en p0),aX (M.aHH.en p1)] [rB r]):=⟨λp0 p1 r h=>by unfold sB at h;exact sgo 38 [.tmp 4] Tryz.func609⟩
theorem aGM(p0 p1 r)(h:uP p0 p1=some r):Sc 406 [aX (M.aHV.en p0),aX (M.aHV.en p1)] [rB r]:=by unfold uP at h;exact sgo 17 [.tmp 4] Tryz.func406
instance:bK 494 (∀p0 p1 r (h:yZ p0 p1=some r),Sc 494 [aX (M.aHY.en p0),aX (M.aHY.en p1)] [rB r]):=⟨λp0 p1 r h=>by unfold yZ at h;exact sgo 24 [.tmp 4] Tryz.func494⟩
theorem Zy(p0 p1 r)(h:gM p0 p1=some r):Sc 113 [aX (M.bC.en p0),aX (M.bC.en p1)] [rB r]:=by unfold gM at h;exact sgo 45 [.tmp 4] Tryz.func113
theorem aGK(p0 p1 r)(h:vA p0 p1=some r):Sc 129 [aX (M.aM.en p0),aI p1] [(true,M.aM.rs r)]:=by
 unfold vA at h
 simp only[EN]
 refine sgn 15 [.cell 4 51] Tryz.func129 λbase wd => ?_
 refine sq (rn ?_)
 refine an (sq ?_)
 obtain⟨x1,h2,h⟩:=bind_some h
 refine rn1 (aBP.1 _ _ h2) ?_
 refine an (sq ?_)
 obtain⟨x3,h4,h⟩:=bind_some h
 refine rn1 (aGy x1.aHR (λj=>rZ j p1) 272 [.ptr [.int .i64 p1]] (λj r I=>aGi j p1 r I) x3 h4) ?_
 refine an (sq ?_)
 refine cu (λs=>s.t 4=vP 4 1 0/\s.t 5=vP 5 1 0/\s.h 4=(1,oB 51 [.nil])/\s.h 5=(1,oB 51 [.row 100007 2])/\s.h 100007=(2,oW 196 4 M.dO.en x3)/\True) ?_
 rintro s5 f6
 obtain⟨J,C,h⟩:=bind_some h
 refine rn1 (aGB _ _ C) ?_
 refine an (rt ?_)
 cases h
 simp[Ret,TB,EN, *]
theorem aGt(p0 p1 r)(h:zY p0 p1=some r):Sc 130 [aX (M.aHN.en p0),aI p1] [(true,M.aHN.rs r)]:=by
 unfold zY at h
 simp only[EN]
 refine sgn 14 [.cell 4 54] Tryz.func130 λbase wd => ?_
 refine sq (rn ?_)
 refine an (sq ?_)
 obtain⟨x1,h2,h⟩:=bind_some h
 refine rn1 (aBc.1 _ _ h2) ?_
 refine an (sq ?_)
 obtain⟨x3,h4,h⟩:=bind_some h
 refine rn1 (aGQ x1.aHn (λj=>wS j p1) 275 [.ptr [.int .i64 p1]] (λj r C=>aGq j p1 r C) x3 h4) ?_
 refine an (sq (rn ?_))
 refine an (rt ?_)
 cases h
 simp[Ret,TB,EN, *]
theorem c25(p0 p1 p2 r)(h:An p0 p1 p2=some r):Sc 25 [aX (M.World.en p0),aS p1,aS p2] [rW 67 11 M.bC.en r]:=by
 have i1:=inv λm s=>∃j:Int,∃C:List M.bC,∃I:Nat,(s.t 1=vS p1/\s.t 2=vS p2/\s.t 7=vR 100010 I/\s.t 12=vL M.bC.en p0.aHQ/\s.t 13=vI (List.length p0.aHQ:Int)/\s.t 14=vI j/\s.h 100010=(I,oW 67 11 M.bC.en C))/\kA p0 p1 p2 m j C=some r
 have e1:=@kA.eq_2
 unfold An at h
 exact sgo 35 [.tmp 6] Tryz.func25
