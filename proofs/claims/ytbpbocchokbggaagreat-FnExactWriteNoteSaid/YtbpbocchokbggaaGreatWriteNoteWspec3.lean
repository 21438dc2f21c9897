/-
  Helper text. No conditions.
-/
import Derived.Test.YtbpbocchokbggaaGreatWriteNoteWspec2
set_option linter.all false
namespace Go.Proofs.YtbpbocchokbggaaGreat.gen
open Go Go.Sh
set_option maxRecDepth 20000
set_option maxHeartbeats 4000000
instance:aZ 159 (∀p0 r (h:eF p0=some r),Sc 159 [aX (M.aD.en p0)] [(true,M.aD.rs r)]):=⟨λp0 r h=>by
 have i1:=KP [.b 3 0 7050000 126 24] λm s=>∃v4:Int,∃aa:List M.aEJ,∃ae:Nat,(s.t 1=vP 1 1 0/\s.t 2=vP 2 1 0/\s.t 3=vP 3 1 0/\s.t 4=vI v4/\s.h 1=(1,oX 47 (M.aD.en p0))/\s.h 2=(1,oB 47 [.nil])/\s.h 3=(1,oB 47 [.row 7050000 ae])/\s.h 7050000=(ae,oW 126 24 M.aEJ.en aa))/\lH p0 m v4 aa=some r
 have e1:=@lH.eq_2
 unfold eF at h
 exact sgo 25 [.cell 2 47] Tryz.func159⟩
instance:aZ 43 (∀p0 r (h:xH p0=some r),Sc 43 [aX (M.World.en p0)] [(true,M.World.rs r)]):=⟨λp0 r h=>by
 have i1:=λ(x1:M.aD)=>inv λm s=>∃v4:Int,∃ae:List M.bS,∃af:Nat,(s.t 1=vP 1 1 0/\s.t 2=vP 2 1 0/\s.t 3=vP 3 1 0/\s.t 4=vI v4/\s.h 1=(1,oX 58 (M.World.en p0))/\s.h 2=(1,V0)/\s.h 3=(1,oB 58 [cI p0.Now,cB p0.aEs,cI p0.aEd,.row 100010 1,.row 100012 af,cI p0.aEl,cL M.eV.en p0.aEh.aEh,cL M.gT.en p0.aEY.aEv,cL M.aET.en p0.aEr,cL M.aEX.en p0.aEi])/\s.h 100010=(1,oW 126 24 M.aEJ.en x1.aEP)/\s.h 100012=(af,oW 67 11 M.bS.en ae))/\jW p0 x1 m v4 ae=some r
 have e1:=@jW.eq_2
 have i2:=λ(x1:M.aD) (ae:List M.bS) (ah:M.aR) (ai:M.aEY) (aa:St) (af:Nat)=>inv λm s=>∃v5:Int,∃aj:List M.aET,∃ak:Nat,(s.t 1=vP 1 1 0/\s.t 2=vP 2 1 0/\s.t 3=vP 3 1 0/\s.t 5=vI v5/\s.h 1=(1,oX 58 (M.World.en p0))/\s.h 2=(1,V0)/\s.h 3=(1,oB 58 [cI p0.Now,cB p0.aEs,cI p0.aEd,.row 100010 1,.row 100012 af,cI p0.aEl,.row 100034 ((aa.h 100034).1+1),.row 100038 ((aa.h 100038).1+1),.row 100040 ak,cL M.aEX.en p0.aEi])/\s.h 100010=(1,oW 126 24 M.aEJ.en x1.aEP)/\s.h 100012=(af,oW 67 11 M.bS.en ae)/\s.h 100034=((aa.h 100034).1+1,oW 196 4 M.eV.en ah.aEh)/\s.h 100038=((aa.h 100038).1+1,oW 199 3 M.gT.en ai.aEv)/\s.h 100040=(ak,oW 92 4 M.aET.en aj))/\gQ p0 x1 ae ah ai m v5 aj=some r
 have e2:=@gQ.eq_2
 have i3:=λ(x1:M.aD) (ae:List M.bS) (ah:M.aR) (ai:M.aEY) (aj:List M.aET) (aa:St) (af:Nat) (ak:Nat)=>inv λm s=>∃v6:Int,∃al:List M.aEX,∃ao:Nat,(s.t 1=vP 1 1 0/\s.t 2=vP 2 1 0/\s.t 3=vP 3 1 0/\s.t 6=vI v6/\s.h 1=(1,oX 58 (M.World.en p0))/\s.h 2=(1,V0)/\s.h 3=(1,oB 58 [cI p0.Now,cB p0.aEs,cI p0.aEd,.row 100010 1,.row 100012 af,cI p0.aEl,.row 100034 ((aa.h 100034).1+1),.row 100038 ((aa.h 100038).1+1),.row 100040 ak,.row 100060 ao])/\s.h 100010=(1,oW 126 24 M.aEJ.en x1.aEP)/\s.h 100012=(af,oW 67 11 M.bS.en ae)/\s.h 100034=((aa.h 100034).1+1,oW 196 4 M.eV.en ah.aEh)/\s.h 100038=((aa.h 100038).1+1,oW 199 3 M.gT.en ai.aEv)/\s.h 100040=(ak,oW 92 4 M.aET.en aj)/\s.h 100060=(ao,oW 205 5 M.aEX.en al))/\gM p0 x1 ae ah ai aj m v6 al=some r
 have e3:=@gM.eq_2
 unfold xH at h
 exact sgo 81 [.cell 2 58] Tryz.func43⟩
instance:aZ 309 (∀p0 r (h:oV p0=some r),Sc 309 [aL enB p0] [rW 139 7 M.Op.en r.1,rB r.2]):=⟨λp0 r h=>by
 have i1:=λ(x1:(Int×Int×Bool))=>inv λm s=>∃v5:Int,∃v8:Int,∃aa:List M.Op,∃ae:Nat,(s.t 0=vL enB p0/\s.t 4=vI x1.1/\s.t 5=vI v5/\s.t 7=vR 100025 ae/\s.t 8=vI v8/\s.h 100025=(ae,oW 139 7 M.Op.en aa))/\iP p0 x1 m v5 v8 aa=some r
 have e1:=@iP.eq_2
 unfold oV at h
 exact sgo 53 [.tmp 2,.tmp 3] Tryz.func309⟩
instance:aZ 310 (∀p0 r (h:jU p0=some r),Sc 310 [aX (M.aEK.en p0)] [rB r]):=⟨λp0 r h=>by
 have i1:=inv λm s=>∃v3:Int,(s.t 1=vP 1 1 0/\s.t 3=vI v3/\s.h 1=(1,oX 112 (M.aEK.en p0)))/\dY p0 m v3=some r
 have e1:=@dY.eq_2
 have i2:=inv λm s=>∃v4:Int,(s.t 1=vP 1 1 0/\s.t 4=vI v4/\s.h 1=(1,oX 112 (M.aEK.en p0)))/\dZ p0 m v4=some r
 have e2:=@dZ.eq_2
 have i3:=λ(v4:Int) (ae:M.aG) (af:Int->Option Bool)=>inv λm s=>∃aa:Int,(s.t 1=vP 1 1 0/\s.t 4=vI v4/\s.t 9=vI aa/\s.h 1=(1,oX 112 (M.aEK.en p0)))/\fB p0 v4 ae af m aa=some r
 have e3:=@fB.eq_2
 unfold jU at h
 exact sgo 124 [.tmp 2] Tryz.func310⟩
instance:aZ 435 (∀p0 p1 r (h:Au p0 p1=some r),Sc 435 [aX (M.aC.en p0),aX (M.Op.en p1)] [(true,M.aC.rs r.1),rI r.2.1,rB r.2.2]):=⟨λp0 p1 r h=>by unfold Au at h;exact sgo 97 [.cell 4 117,.tmp 5,.tmp 6] Tryz.func435⟩
instance:aZ 311 (∀p0 p1 r (h:Be p0 p1=some r),Sc 311 [aX (M.aEK.en p0),aX (M.Op.en p1)] [(true,M.aEK.rs r.1),rI r.2.1,rB r.2.2]):=⟨λp0 p1 r h=>by unfold Be at h;exact sgo 58 [.cell 4 112,.tmp 5,.tmp 6] Tryz.func311⟩
instance:aZ 171 (∀p0 p1 r (h:uZ p0 p1=some r),Sc 171 [aX (M.aEK.en p0),aL M.Op.en p1] [(true,M.aEK.rs r.1),rW 3 1 enI r.2.1,rB r.2.2]):=⟨λp0 p1 r h=>by
 have i1:=KP [.b 7 2 7050000 117 3,.b 7 3 7050001 471 2] λm s=>∃v9:Int,∃ai:ByteArray,∃aj:Int,∃ak:List Int,∃aa:List M.aC,∃ae:List M.aG,∃al:Nat,∃af:Nat,∃ah:Nat,(s.t 1=vL M.Op.en p1/\s.t 2=vP 2 1 0/\s.t 4=vP 4 1 0/\s.t 7=vP 7 1 0/\s.t 8=vR 100015 al/\s.t 9=vI v9/\s.h 2=(1,oX 112 (M.aEK.en p0))/\s.h 4=(1,KH)/\s.h 7=(1,oB 112 [cS ai,cI aj,.row 7050000 af,.row 7050001 ah])/\s.h 100015=(al,oW 3 1 enI ak)/\s.h 7050000=(af,oW 117 3 M.aC.en aa)/\s.h 7050001=(ah,oW 471 2 M.aG.en ae))/\pD p0 p1 m v9 ai aj ak aa ae=some r
 have e1:=@pD.eq_2
 unfold uZ at h
 exact sgo 54 [.cell 4 112,.tmp 5,.tmp 6] Tryz.func171⟩
instance:aZ 165 (∀p0 r (h:tB p0=some r),Sc 165 [aX (M.bK.en p0)] [(true,M.aEK.rs r.1),rI r.2]):=⟨λp0 r h=>by
 have i1:=λ(x3:((List (List Int))×Int))=>KP [.b 4 2 7050000 117 3,.b 4 3 7050001 471 2] λm s=>∃v7:Int,∃ai:ByteArray,∃aj:Int,∃aa:List M.aC,∃ae:List M.aG,∃af:Nat,∃ah:Nat,(s.t 2=vP 2 1 0/\s.t 4=vP 4 1 0/\s.t 5=vR 100019 1/\s.t 7=vI v7/\s.h 2=(1,KH)/\s.h 4=(1,oB 112 [cS ai,cI aj,.row 7050000 af,.row 7050001 ah])/\s.h 100019=(1,oW 74 1 (enL enB) x3.1)/\s.h 7050000=(af,oW 117 3 M.aC.en aa)/\s.h 7050001=(ah,oW 471 2 M.aG.en ae))/\mN x3 m v7 ai aj aa ae=some r
 have e1:=@mN.eq_2
 unfold tB at h
 exact sgo 51 [.cell 2 112,.tmp 3] Tryz.func165⟩
instance:aZ 44 (∀p0 p1 r (h:wH p0 p1=some r),Sc 44 [aX (M.aEJ.en p0),aI p1] [(true,M.aA.rs r.1),rB r.2]):=⟨λp0 p1 r h=>by unfold wH at h;exact sgo 43 [.cell 4 129,.tmp 5] Tryz.func44⟩
instance:aZ 46 (∀p0 p1 r (h:sK p0 p1=some r),Sc 46 [aX (M.bK.en p0),aL M.Op.en p1] [(true,M.bK.rs r.1),rB r.2]):=⟨λp0 p1 r h=>by unfold sK at h;exact sgo 64 [.cell 4 114,.tmp 5] Tryz.func46⟩
instance:aZ 487 (∀p0 r (h:B3 p0=some r),Sc 487 [aX (M.bK.en p0)] [rI r]):=⟨λp0 r h=>by unfold B3 at h;exact sgo 10 [.tmp 2] Tryz.func487⟩
instance:aZ 394 (∀p0 r (h:AE p0=some r),Sc 394 [aX (M.aEJ.en p0)] [rI r]):=⟨λp0 r h=>by unfold AE at h;exact sgo 23 [.tmp 2] Tryz.func394⟩
instance UR:aZ 252 (∀p0 r (h:mC p0=some r),Sc 252 [aX (M.aEJ.en p0)] [rB r]):=⟨λp0 r h=>by unfold mC at h;exact sgo 50 [.tmp 2] Tryz.func252⟩
theorem Xe(j C:M.aEJ)(r:(M.aEJ×Bool))(h:mV j C=some r)(h2:r.2=false):nB Tryz.prog 174 [(true,M.aEJ.en j),(true,M.aEJ.en C)] [(true,[.ro (.str r.1.aET),.ro (.str r.1.Top),.ro (.str r.1.aEL.aET),.ro (.int .i64 r.1.aEL.aEn),.ro (.int .i64 r.1.aEL.aEw),.ro (.int .i64 r.1.aEL.aE0),.own 345 2 (List.map M.aEZ.en r.1.aEV.aEV),.ro (.str r.1.bK.aEe.Name),.ro (.int .i64 r.1.bK.aEe.aER),.own 117 3 (List.map M.aC.en r.1.bK.aEe.aEU),.own 471 2 (List.map M.aG.en r.1.bK.aEe.aEb),.own 5 1 (List.map enB r.1.bK.Log),.ro (.int .i64 r.1.bK.aEx),.ro (.str r.1.aF.aEe.Name),.own 260 4 (List.map M.aES.en r.1.aF.aEe.aEM),.ro (.int .i64 r.1.aF.aEe.aEo),.ro (.int .i64 r.1.aF.aFF),.ro (.int .i64 r.1.aF.aEf.aU.aEd),.ro (.int .i64 r.1.aF.aEf.aU.aFB),.own 328 7 (List.map M.bB.en r.1.aF.aEf.aU.aEm),.ro (.int .i64 r.1.aF.aEf.aE9),.ro (.int .i64 r.1.aF.aEf.aEt),.ro (.int .i64 r.1.aEk),.ro (.bool r.1.aEg)]),(false,[.ro (.bool r.2)])]:=by
 unfold mV at h
 simp only[M.aEJ.en]
 refine L5 (N:=17) (vars:=[.cell 4 126,.tmp 5]) Tryz.func174 rfl rfl rfl jH (Nat.le_of_ble_eq_true rfl) λbase wd=> ?_
 refine sq ?_
 apply iD
 ·simp+decide only[E,reduceIte,Nat.reduceAdd,Nat.reduceMul,qB,qC,L,CJ,EN];exact Is.mk _
 refine an (sq (sq ?_))
 obtain⟨x1,h2,h⟩:=bind_some h
 rcases dQ (!x1)with b3|b3
 ·replace h:=bR b3 h
  apply iD
  ·simp+decide only[E,reduceIte,Nat.reduceAdd,Nat.reduceMul,qB,qC,L,CJ,EN,b3]
   refine⟨_,UR.1 _ _ h2,?_⟩
   try simp+decide only[E,reduceIte,Nat.reduceAdd,Nat.reduceMul,qB,qC,L,CJ,EN,b3]
   exact Is.mk _
  refine an ?_
  refine Da (by simp+decide only[F,reduceIte,Nat.reduceAdd,qB,qC,b3]) ?_
  refine sq ?_
  obtain⟨x4,h5,h⟩:=bind_some h
  apply iD
  ·simp+decide only[E,reduceIte,Nat.reduceAdd,Nat.reduceMul,qB,qC,L,CJ,EN,b3]
   refine⟨_,VE.1 _ _ h5,?_⟩
   try simp+decide only[E,reduceIte,Nat.reduceAdd,Nat.reduceMul,qB,qC,L,CJ,EN,b3]
   exact Is.mk _
  refine an (rt ?_)
  cases h
  simp[Ret,EN,CJ,M.aEZ.en,M.aG.en,M.aES.en,M.aC.en,M.bB.en,enB,b3]
 replace h:=bQ b3 h
 obtain⟨x6,h7,h⟩:=bind_some h
 apply iD
 ·simp+decide only[E,reduceIte,Nat.reduceAdd,Nat.reduceMul,qB,qC,L,CJ,EN,b3]
  refine⟨_,UR.1 _ _ h2,?_⟩
  try simp+decide only[E,reduceIte,Nat.reduceAdd,Nat.reduceMul,qB,qC,L,CJ,EN,b3]
  refine⟨_,UR.1 _ _ h7,?_⟩
  try simp+decide only[E,reduceIte,Nat.reduceAdd,Nat.reduceMul,qB,qC,L,CJ,EN,b3]
  exact Is.mk _
 refine an ?_
 rcases Ep (!x6)with b8|b8
 ·replace h:=bQ b8 h;refine DD (by simp+decide only[F,reduceIte,Nat.reduceAdd,qB,qC,b3,b8]) ?_;refine sk (an (sq ?_));apply iD;(simp+decide only[E,reduceIte,Nat.reduceAdd,Nat.reduceMul,qB,qC,L,CJ,EN,b3,b8];exact Is.mk _);refine an (rt ?_);cases h;exact absurd h2 jF
 replace h:=bR b8 h
 refine Da (by simp+decide only[F,reduceIte,Nat.reduceAdd,qB,qC,b3,b8]) ?_
 refine sq ?_
 obtain⟨x9,I,h⟩:=bind_some h
 apply iD
 ·simp+decide only[E,reduceIte,Nat.reduceAdd,Nat.reduceMul,qB,qC,L,CJ,EN,b3,b8]
  refine⟨_,VE.1 _ _ I,?_⟩
  try simp+decide only[E,reduceIte,Nat.reduceAdd,Nat.reduceMul,qB,qC,L,CJ,EN,b3,b8]
  exact Is.mk _
 refine an (rt ?_)
 cases h
 simp[Ret,EN,CJ,M.aEZ.en,M.aG.en,M.aES.en,M.aC.en,M.bB.en,enB,b3,b8]
theorem Yv(j C:M.aEJ)(r:(M.aEJ×Bool))(h:mV j C=some r)(h2:r.2=true):nB Tryz.prog 174 [(true,M.aEJ.en j),(true,M.aEJ.en C)] [(false,[.edit .pass])]:=by
 unfold mV at h
 simp only[M.aEJ.en]
 refine Vm (N:=17) (vars:=[.cell 4 126,.tmp 5]) Tryz.func174 rfl rfl rfl jH jG λbase wd J=> ?_
 refine sq ?_
 apply iD
 ·simp+decide only[LP,E,reduceIte,Nat.reduceAdd,Nat.reduceMul,qB,qC,L,CJ,EN];exact Is.mk _
 refine an (sq (sq ?_))
 obtain⟨x1,h2,h⟩:=bind_some h
 rcases dQ (!x1)with b3|b3
 ·replace h:=bR b3 h
  apply iD
  ·simp+decide only[LP,E,reduceIte,Nat.reduceAdd,Nat.reduceMul,qB,qC,L,CJ,EN,b3]
   refine⟨_,UR.1 _ _ h2,?_⟩
   try simp+decide only[LP,E,reduceIte,Nat.reduceAdd,Nat.reduceMul,qB,qC,L,CJ,EN,b3]
   exact Is.mk _
  refine an ?_
  refine Da (by simp+decide only[LP,F,reduceIte,Nat.reduceAdd,qB,qC,b3]) ?_
  refine sq ?_
  obtain⟨x4,h5,h⟩:=bind_some h
  apply iD
  ·simp+decide only[LP,E,reduceIte,Nat.reduceAdd,Nat.reduceMul,qB,qC,L,CJ,EN,b3]
   refine⟨_,VE.1 _ _ h5,?_⟩
   try simp+decide only[LP,E,reduceIte,Nat.reduceAdd,Nat.reduceMul,qB,qC,L,CJ,EN,b3]
   exact Is.mk _
  refine an (rt ?_)
  cases h
  exact absurd h2 jF
 replace h:=bQ b3 h
 obtain⟨x6,h7,h⟩:=bind_some h
 apply iD
 ·simp+decide only[LP,E,reduceIte,Nat.reduceAdd,Nat.reduceMul,qB,qC,L,CJ,EN,b3]
  refine⟨_,UR.1 _ _ h2,?_⟩
  try simp+decide only[LP,E,reduceIte,Nat.reduceAdd,Nat.reduceMul,qB,qC,L,CJ,EN,b3]
  refine⟨_,UR.1 _ _ h7,?_⟩
  try simp+decide only[LP,E,reduceIte,Nat.reduceAdd,Nat.reduceMul,qB,qC,L,CJ,EN,b3]
  exact Is.mk _
 refine an ?_
 rcases Ep (!x6)with b8|b8
 ·replace h:=bQ b8 h;refine DD (by simp+decide only[LP,F,reduceIte,Nat.reduceAdd,qB,qC,b3,b8]) ?_;refine sk (an (sq ?_));apply iD;(simp+decide only[LP,E,reduceIte,Nat.reduceAdd,Nat.reduceMul,qB,qC,L,CJ,EN,b3,b8];exact Is.mk _);refine an (rt ?_);cases h;simp[Yx,LP,M.aEJ.en,CJ,b3,b8]
 replace h:=bR b8 h
 refine Da (by simp+decide only[LP,F,reduceIte,Nat.reduceAdd,qB,qC,b3,b8]) ?_
 refine sq ?_
 obtain⟨x9,I,h⟩:=bind_some h
 apply iD
 ·simp+decide only[LP,E,reduceIte,Nat.reduceAdd,Nat.reduceMul,qB,qC,L,CJ,EN,b3,b8]
  refine⟨_,VE.1 _ _ I,?_⟩
  try simp+decide only[LP,E,reduceIte,Nat.reduceAdd,Nat.reduceMul,qB,qC,L,CJ,EN,b3,b8]
  exact Is.mk _
 refine an (rt ?_)
 cases h
 exact absurd h2 jF
instance:aZ 48 (∀p0 p1 r (h:rQ p0 p1=some r),Sc 48 [aX (M.aEJ.en p0),aX (M.bK.en p1)] [(true,M.aEJ.rs r.1),rB r.2]):=⟨λp0 p1 r h=>by
 unfold rQ at h
 simp only[EN]
 refine sgn 17 [.cell 4 126,.tmp 5] Tryz.func48 λbase wd => ?_
 refine sq (rn ?_)
 refine an (sq ?_)
 obtain⟨x1,h2,h⟩:=bind_some h
 refine rn1 (VE.1 _ _ h2) ?_
 refine an (sq ?_)
 obtain⟨x3,h4,h⟩:=bind_some h
 refine rn1 (XD.1 _ _ h4) ?_
 refine an (sq ?_)
 obtain⟨x5,h6,h⟩:=bind_some h
 rcases dQ x5.2 with b7 | b7
 ·replace h:=bR b7 h;refine rn1 (Yv _ _ _ h6 b7) ?_;refine an (rt ?_);cases h;simp[Ret,TB,EN, *]
 replace h:=bQ b7 h
 refine rn1 (Xe _ _ _ h6 b7) ?_
 refine an (rt ?_)
 cases h
 simp[Ret,TB,EN, *]⟩
instance:aZ 127 (∀p0 r (h:cK p0=some r),Sc 127 [aX (M.aD.en p0)] [rB r]):=⟨λp0 r h=>by
 have i1:=inv λm s=>∃v3:Int,(s.t 1=vP 1 1 0/\s.t 3=vI v3/\s.h 1=(1,oX 47 (M.aD.en p0)))/\eY p0 m v3=some r
 have e1:=@eY.eq_2
 unfold cK at h
 exact sgo 48 [.tmp 2] Tryz.func127⟩
instance:aZ 106 (∀p0 p1 r (h:vE p0 p1=some r),Sc 106 [aX (M.aD.en p0),aX (M.aEJ.en p1)] [(true,M.aD.rs r.1),rB r.2]):=⟨λp0 p1 r h=>by
 have i1:=λ(x1:M.aD)=>inv λm s=>∃v8:Int,(s.t 2=vP 2 1 0/\s.t 3=vP 3 1 0/\s.t 4=vP 4 1 0/\s.t 6=vP 6 1 0/\s.t 8=vI v8/\s.h 2=(1,oX 47 (M.aD.en p0))/\s.h 3=(1,oX 126 (M.aEJ.en p1))/\s.h 4=(1,oB 47 [.nil])/\s.h 6=(1,oB 47 [.row 100011 1])/\s.h 100011=(1,oW 126 24 M.aEJ.en x1.aEP))/\iR p0 p1 x1 m v8=some r
 have e1:=@iR.eq_2
 unfold vE at h
 exact sgo 74 [.cell 4 47,.tmp 5] Tryz.func106⟩
instance:aZ 49 (∀p0 p1 p2 r (h:rG p0 p1 p2=some r),Sc 49 [aX (M.World.en p0),aX (M.aEJ.en p1),aB p2] [(true,M.World.rs r.1),rB r.2]):=⟨λp0 p1 p2 r h=>by unfold rG at h;exact sgo 30 [.cell 6 58,.tmp 7] Tryz.func49⟩
theorem c8(p0 p1 p2 p3 p4 r)(h:vJ p0 p1 p2 p3 p4=some r):Sc 8 [aX (M.World.en p0),aX (M.bS.en p1),aI p2,aS p3,aI p4] [(true,M.World.rs r.1),rB r.2]:=by unfold vJ at h;exact sgo 84 [.cell 10 58,.tmp 11] Tryz.func8
