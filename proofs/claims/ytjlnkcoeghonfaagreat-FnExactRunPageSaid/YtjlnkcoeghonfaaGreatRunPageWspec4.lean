/-
  Helper text. No conditions.
-/
import Derived.Test.YtjlnkcoeghonfaaGreatRunPageWspec3
set_option linter.all false
namespace Go.Proofs.YtjlnkcoeghonfaaGreat.gen
open Go Go.Sh
set_option maxRecDepth 20000
set_option maxHeartbeats 4000000
instance:aW 29 (∀p0 r (h:oY p0=some r),Sc 29 [aX (M.World.en p0)] [(true,M.World.rs r)]):=⟨λp0 r h=>by
 have i1:=λ(x1:M.aA)=>inv λm s=>∃v4:Int,∃ae:List M.bD,∃af:Nat,(s.t 1=vP 1 1 0/\s.t 2=vP 2 1 0/\s.t 3=vP 3 1 0/\s.t 4=vI v4/\s.h 1=(1,oX 50 (M.World.en p0))/\s.h 2=(1,YN)/\s.h 3=(1,oB 50 [cI p0.Now,cB p0.aKF,cI p0.aJy,.row 100010 1,.row 100012 af,cI p0.aJ4,cL M.eO.en p0.aJ3.aJ3,cL M.iU.en p0.aJu.aKM,cL M.aJr.en p0.aKE,cL M.aJv.en p0.aJ6])/\s.h 100010=(1,oW 84 24 M.aJi.en x1.aJp)/\s.h 100012=(af,oW 91 11 M.bD.en ae))/\lU p0 x1 m v4 ae=some r
 have e1:=@lU.eq_2
 have i2:=λ(x1:M.aA) (ae:List M.bD) (ah:M.aP) (ai:M.aJu) (aa:St) (af:Nat)=>inv λm s=>∃v5:Int,∃aj:List M.aJr,∃ak:Nat,(s.t 1=vP 1 1 0/\s.t 2=vP 2 1 0/\s.t 3=vP 3 1 0/\s.t 5=vI v5/\s.h 1=(1,oX 50 (M.World.en p0))/\s.h 2=(1,YN)/\s.h 3=(1,oB 50 [cI p0.Now,cB p0.aKF,cI p0.aJy,.row 100010 1,.row 100012 af,cI p0.aJ4,.row 100034 ((aa.h 100034).1+1),.row 100038 ((aa.h 100038).1+1),.row 100040 ak,cL M.aJv.en p0.aJ6])/\s.h 100010=(1,oW 84 24 M.aJi.en x1.aJp)/\s.h 100012=(af,oW 91 11 M.bD.en ae)/\s.h 100034=((aa.h 100034).1+1,oW 144 4 M.eO.en ah.aJ3)/\s.h 100038=((aa.h 100038).1+1,oW 147 3 M.iU.en ai.aKM)/\s.h 100040=(ak,oW 151 4 M.aJr.en aj))/\iP p0 x1 ae ah ai m v5 aj=some r
 have e2:=@iP.eq_2
 have i3:=λ(x1:M.aA) (ae:List M.bD) (ah:M.aP) (ai:M.aJu) (aj:List M.aJr) (aa:St) (af:Nat) (ak:Nat)=>inv λm s=>∃v6:Int,∃al:List M.aJv,∃ao:Nat,(s.t 1=vP 1 1 0/\s.t 2=vP 2 1 0/\s.t 3=vP 3 1 0/\s.t 6=vI v6/\s.h 1=(1,oX 50 (M.World.en p0))/\s.h 2=(1,YN)/\s.h 3=(1,oB 50 [cI p0.Now,cB p0.aKF,cI p0.aJy,.row 100010 1,.row 100012 af,cI p0.aJ4,.row 100034 ((aa.h 100034).1+1),.row 100038 ((aa.h 100038).1+1),.row 100040 ak,.row 100060 ao])/\s.h 100010=(1,oW 84 24 M.aJi.en x1.aJp)/\s.h 100012=(af,oW 91 11 M.bD.en ae)/\s.h 100034=((aa.h 100034).1+1,oW 144 4 M.eO.en ah.aJ3)/\s.h 100038=((aa.h 100038).1+1,oW 147 3 M.iU.en ai.aKM)/\s.h 100040=(ak,oW 151 4 M.aJr.en aj)/\s.h 100060=(ao,oW 156 5 M.aJv.en al))/\iM p0 x1 ae ah ai aj m v6 al=some r
 have e3:=@iM.eq_2
 unfold oY at h
 exact sgo 81 [.cell 2 50] Tryz.func29⟩
instance:aW 322 (∀p0 r (h:CQ p0=some r),Sc 322 [aX (M.aJi.en p0)] [rI r]):=⟨λp0 r h=>by unfold CQ at h;exact sgo 23 [.tmp 2] Tryz.func322⟩
instance YG:aW 207 (∀p0 r (h:pE p0=some r),Sc 207 [aX (M.aJi.en p0)] [rB r]):=⟨λp0 r h=>by unfold pE at h;exact sgo 50 [.tmp 2] Tryz.func207⟩
instance:aW 94 (∀p0 r (h:cQ p0=some r),Sc 94 [aX (M.aA.en p0)] [rB r]):=⟨λp0 r h=>by
 have i1:=inv λm s=>∃v3:Int,(s.t 1=vP 1 1 0/\s.t 3=vI v3/\s.h 1=(1,oX 39 (M.aA.en p0)))/\gA p0 m v3=some r
 have e1:=@gA.eq_2
 unfold cQ at h
 exact sgo 48 [.tmp 2] Tryz.func94⟩
instance:aW 19 (∀p0 r (h:AG p0=some r),Sc 19 [aX (M.World.en p0)] [rB r]):=⟨λp0 r h=>by
 have i1:=inv λm s=>∃v3:Int,(s.t 1=vP 1 1 0/\s.t 3=vI v3/\s.h 1=(1,oX 50 (M.World.en p0)))/\lS p0 m v3=some r
 have e1:=@lS.eq_2
 have i2:=inv λm s=>∃v4:Int,(s.t 1=vP 1 1 0/\s.t 4=vI v4/\s.h 1=(1,oX 50 (M.World.en p0)))/\eA p0 m v4=some r
 have e2:=@eA.eq_2
 unfold AG at h
 exact sgo 126 [.tmp 2] Tryz.func19⟩
instance:aW 116 (∀p0 p1 p2 p3 p4 r (h:vD p0 p1 p2 p3 p4=some r),Sc 116 [aX (M.aO.en p0),aX (M.aJr.en p1),aI p2,aS p3,aB p4] [(true,M.aJo.rs r)]):=⟨λp0 p1 p2 p3 p4 r h=>by unfold vD at h;exact sgo 30 [.cell 10 107] Tryz.func116⟩
instance:aW 32 (∀p0 p1 p2 r (h:tW p0 p1 p2=some r),Sc 32 [aX (M.World.en p0),aX (M.bD.en p1),aS p2] [(true,M.aJo.rs r)]):=⟨λp0 p1 p2 r h=>by unfold tW at h;exact sgo 44 [.cell 6 107] Tryz.func32⟩
instance:aW 345 (∀p0 p1 r (h:Dm p0 p1=some r),Sc 345 [aX (M.aJj.en p0),aX (M.Op.en p1)] [(true,M.aJj.rs r.1),rI r.2.1,rB r.2.2]):=⟨λp0 p1 r h=>by unfold Dm at h;exact sgo 58 [.cell 4 70,.tmp 5,.tmp 6] Tryz.func345⟩
instance:aW 234 (∀p0 p1 r (h:zK p0 p1=some r),Sc 234 [aX (M.aJj.en p0),aL M.Op.en p1] [(true,M.aJj.rs r.1),rW 3 1 enI r.2.1,rB r.2.2]):=⟨λp0 p1 r h=>by
 have i1:=Mt [.b 7 2 7050000 75 3,.b 7 3 7050001 382 2] λm s=>∃v9:Int,∃ai:ByteArray,∃aj:Int,∃ak:List Int,∃aa:List M.aD,∃ae:List M.aG,∃al:Nat,∃af:Nat,∃ah:Nat,(s.t 1=vL M.Op.en p1/\s.t 2=vP 2 1 0/\s.t 4=vP 4 1 0/\s.t 7=vP 7 1 0/\s.t 8=vR 100015 al/\s.t 9=vI v9/\s.h 2=(1,oX 70 (M.aJj.en p0))/\s.h 4=(1,Xe)/\s.h 7=(1,oB 70 [cS ai,cI aj,.row 7050000 af,.row 7050001 ah])/\s.h 100015=(al,oW 3 1 enI ak)/\s.h 7050000=(af,oW 75 3 M.aD.en aa)/\s.h 7050001=(ah,oW 382 2 M.aG.en ae))/\tR p0 p1 m v9 ai aj ak aa ae=some r
 have e1:=@tR.eq_2
 unfold zK at h
 exact sgo 54 [.cell 4 70,.tmp 5,.tmp 6] Tryz.func234⟩
instance:aW 228 (∀p0 r (h:xL p0=some r),Sc 228 [aX (M.bL.en p0)] [(true,M.aJj.rs r.1),rI r.2]):=⟨λp0 r h=>by
 have i1:=λ(x3:((List (List Int))×Int))=>Mt [.b 4 2 7050000 75 3,.b 4 3 7050001 382 2] λm s=>∃v7:Int,∃ai:ByteArray,∃aj:Int,∃aa:List M.aD,∃ae:List M.aG,∃af:Nat,∃ah:Nat,(s.t 2=vP 2 1 0/\s.t 4=vP 4 1 0/\s.t 5=vR 100019 1/\s.t 7=vI v7/\s.h 2=(1,Xe)/\s.h 4=(1,oB 70 [cS ai,cI aj,.row 7050000 af,.row 7050001 ah])/\s.h 100019=(1,oW 58 1 (enL enB) x3.1)/\s.h 7050000=(af,oW 75 3 M.aD.en aa)/\s.h 7050001=(ah,oW 382 2 M.aG.en ae))/\pT x3 m v7 ai aj aa ae=some r
 have e1:=@pT.eq_2
 unfold xL at h
 exact sgo 51 [.cell 2 70,.tmp 3] Tryz.func228⟩
instance:aW 117 (∀p0 p1 r (h:uK p0 p1=some r),Sc 117 [aX (M.aJi.en p0),aI p1] [(true,M.aC.rs r.1),rB r.2]):=⟨λp0 p1 r h=>by unfold uK at h;exact sgo 43 [.cell 4 207,.tmp 5] Tryz.func117⟩
instance:aW 35 (∀p0 p1 p2 p3 r (h:xG p0 p1 p2 p3=some r),Sc 35 [aX (M.World.en p0),aX (M.bD.en p1),aI p2,aS p3] [rI r]):=⟨λp0 p1 p2 p3 r h=>by unfold xG at h;exact sgo 44 [.tmp 8] Tryz.func35⟩
instance:aW 121 (∀p0 p1 r (h:wS p0 p1=some r),Sc 121 [aX (M.bL.en p0),aL M.Op.en p1] [(true,M.bL.rs r.1),rB r.2]):=⟨λp0 p1 r h=>by unfold wS at h;exact sgo 64 [.cell 4 72,.tmp 5] Tryz.func121⟩
theorem aAw(j C:M.aJi)(r:(M.aJi×Bool))(h:nK j C=some r)(h2:r.2=false):pH Tryz.prog 237 [(true,M.aJi.en j),(true,M.aJi.en C)] [(true,[.ro (.str r.1.aJr),.ro (.str r.1.Top),.ro (.str r.1.aJk.aJr),.ro (.int .i64 r.1.aJk.aKI),.ro (.int .i64 r.1.aJk.aKN),.ro (.int .i64 r.1.aJk.aKT),.own 277 2 (List.map M.aJ0.en r.1.aJs.aJs),.ro (.str r.1.bL.aJ8.Name),.ro (.int .i64 r.1.bL.aJ8.aJl),.own 75 3 (List.map M.aD.en r.1.bL.aJ8.aJw),.own 382 2 (List.map M.aG.en r.1.bL.aJ8.aJ5),.own 5 1 (List.map enB r.1.bL.Log),.ro (.int .i64 r.1.bL.aKR),.ro (.str r.1.aE.aJ8.Name),.own 320 4 (List.map M.aJt.en r.1.aE.aJ8.aJm),.ro (.int .i64 r.1.aE.aJ8.aKG),.ro (.int .i64 r.1.aE.aKe),.ro (.int .i64 r.1.aE.aJ7.aM.aJy),.ro (.int .i64 r.1.aE.aJ7.aM.aKU),.own 269 7 (List.map M.aY.en r.1.aE.aJ7.aM.aJ9),.ro (.int .i64 r.1.aE.aJ7.aKX),.ro (.int .i64 r.1.aE.aJ7.aKL),.ro (.int .i64 r.1.aKC),.ro (.bool r.1.aKB)]),(false,[.ro (.bool r.2)])]:=by
 unfold nK at h
 simp only[M.aJi.en]
 refine PQ (N:=17) (vars:=[.cell 4 84,.tmp 5]) Tryz.func237 rfl rfl rfl jH (Nat.le_of_ble_eq_true rfl) λbase wd=> ?_
 refine sq ?_
 apply iT
 ·simp+decide only[E,reduceIte,Nat.reduceAdd,Nat.reduceMul,qB,qC,L,Me,EN];exact Is.mk _
 refine an (sq (sq ?_))
 obtain⟨x1,h2,h⟩:=bind_some h
 rcases cM (!x1)with b3|b3
 ·replace h:=bK b3 h
  apply iT
  ·simp+decide only[E,reduceIte,Nat.reduceAdd,Nat.reduceMul,qB,qC,L,Me,EN,b3]
   refine⟨_,YG.1 _ _ h2,?_⟩
   try simp+decide only[E,reduceIte,Nat.reduceAdd,Nat.reduceMul,qB,qC,L,Me,EN,b3]
   exact Is.mk _
  refine an ?_
  refine Fz (by simp+decide only[F,reduceIte,Nat.reduceAdd,qB,qC,b3]) ?_
  refine sq ?_
  obtain⟨x4,h5,h⟩:=bind_some h
  apply iT
  ·simp+decide only[E,reduceIte,Nat.reduceAdd,Nat.reduceMul,qB,qC,L,Me,EN,b3]
   refine⟨_,YH.1 _ _ h5,?_⟩
   try simp+decide only[E,reduceIte,Nat.reduceAdd,Nat.reduceMul,qB,qC,L,Me,EN,b3]
   exact Is.mk _
  refine an (rt ?_)
  cases h
  simp[Ret,EN,Me,M.aJ0.en,M.aG.en,M.aJt.en,M.aD.en,M.aY.en,enB,b3]
 replace h:=bJ b3 h
 obtain⟨x6,h7,h⟩:=bind_some h
 apply iT
 ·simp+decide only[E,reduceIte,Nat.reduceAdd,Nat.reduceMul,qB,qC,L,Me,EN,b3]
  refine⟨_,YG.1 _ _ h2,?_⟩
  try simp+decide only[E,reduceIte,Nat.reduceAdd,Nat.reduceMul,qB,qC,L,Me,EN,b3]
  refine⟨_,YG.1 _ _ h7,?_⟩
  try simp+decide only[E,reduceIte,Nat.reduceAdd,Nat.reduceMul,qB,qC,L,Me,EN,b3]
  exact Is.mk _
 refine an ?_
 rcases GH (!x6)with b8|b8
 ·replace h:=bJ b8 h;refine Gb (by simp+decide only[F,reduceIte,Nat.reduceAdd,qB,qC,b3,b8]) ?_;refine sk (an (sq ?_));apply iT;(simp+decide only[E,reduceIte,Nat.reduceAdd,Nat.reduceMul,qB,qC,L,Me,EN,b3,b8];exact Is.mk _);refine an (rt ?_);cases h;exact absurd h2 jF
 replace h:=bK b8 h
 refine Fz (by simp+decide only[F,reduceIte,Nat.reduceAdd,qB,qC,b3,b8]) ?_
 refine sq ?_
 obtain⟨x9,I,h⟩:=bind_some h
 apply iT
 ·simp+decide only[E,reduceIte,Nat.reduceAdd,Nat.reduceMul,qB,qC,L,Me,EN,b3,b8]
  refine⟨_,YH.1 _ _ I,?_⟩
  try simp+decide only[E,reduceIte,Nat.reduceAdd,Nat.reduceMul,qB,qC,L,Me,EN,b3,b8]
  exact Is.mk _
 refine an (rt ?_)
 cases h
 simp[Ret,EN,Me,M.aJ0.en,M.aG.en,M.aJt.en,M.aD.en,M.aY.en,enB,b3,b8]
theorem aAr(j C:M.aJi)(r:(M.aJi×Bool))(h:nK j C=some r)(h2:r.2=true):pH Tryz.prog 237 [(true,M.aJi.en j),(true,M.aJi.en C)] [(false,[.edit .pass])]:=by
 unfold nK at h
 simp only[M.aJi.en]
 refine Zx (N:=17) (vars:=[.cell 4 84,.tmp 5]) Tryz.func237 rfl rfl rfl jH jG λbase wd J=> ?_
 refine sq ?_
 apply iT
 ·simp+decide only[LP,E,reduceIte,Nat.reduceAdd,Nat.reduceMul,qB,qC,L,Me,EN];exact Is.mk _
 refine an (sq (sq ?_))
 obtain⟨x1,h2,h⟩:=bind_some h
 rcases cM (!x1)with b3|b3
 ·replace h:=bK b3 h
  apply iT
  ·simp+decide only[LP,E,reduceIte,Nat.reduceAdd,Nat.reduceMul,qB,qC,L,Me,EN,b3]
   refine⟨_,YG.1 _ _ h2,?_⟩
   try simp+decide only[LP,E,reduceIte,Nat.reduceAdd,Nat.reduceMul,qB,qC,L,Me,EN,b3]
   exact Is.mk _
  refine an ?_
  refine Fz (by simp+decide only[LP,F,reduceIte,Nat.reduceAdd,qB,qC,b3]) ?_
  refine sq ?_
  obtain⟨x4,h5,h⟩:=bind_some h
  apply iT
  ·simp+decide only[LP,E,reduceIte,Nat.reduceAdd,Nat.reduceMul,qB,qC,L,Me,EN,b3]
   refine⟨_,YH.1 _ _ h5,?_⟩
   try simp+decide only[LP,E,reduceIte,Nat.reduceAdd,Nat.reduceMul,qB,qC,L,Me,EN,b3]
   exact Is.mk _
  refine an (rt ?_)
  cases h
  exact absurd h2 jF
 replace h:=bJ b3 h
 obtain⟨x6,h7,h⟩:=bind_some h
 apply iT
 ·simp+decide only[LP,E,reduceIte,Nat.reduceAdd,Nat.reduceMul,qB,qC,L,Me,EN,b3]
  refine⟨_,YG.1 _ _ h2,?_⟩
  try simp+decide only[LP,E,reduceIte,Nat.reduceAdd,Nat.reduceMul,qB,qC,L,Me,EN,b3]
  refine⟨_,YG.1 _ _ h7,?_⟩
  try simp+decide only[LP,E,reduceIte,Nat.reduceAdd,Nat.reduceMul,qB,qC,L,Me,EN,b3]
  exact Is.mk _
 refine an ?_
 rcases GH (!x6)with b8|b8
 ·replace h:=bJ b8 h;refine Gb (by simp+decide only[LP,F,reduceIte,Nat.reduceAdd,qB,qC,b3,b8]) ?_;refine sk (an (sq ?_));apply iT;(simp+decide only[LP,E,reduceIte,Nat.reduceAdd,Nat.reduceMul,qB,qC,L,Me,EN,b3,b8];exact Is.mk _);refine an (rt ?_);cases h;simp[aCW,LP,M.aJi.en,Me,b3,b8]
 replace h:=bK b8 h
 refine Fz (by simp+decide only[LP,F,reduceIte,Nat.reduceAdd,qB,qC,b3,b8]) ?_
 refine sq ?_
 obtain⟨x9,I,h⟩:=bind_some h
 apply iT
 ·simp+decide only[LP,E,reduceIte,Nat.reduceAdd,Nat.reduceMul,qB,qC,L,Me,EN,b3,b8]
  refine⟨_,YH.1 _ _ I,?_⟩
  try simp+decide only[LP,E,reduceIte,Nat.reduceAdd,Nat.reduceMul,qB,qC,L,Me,EN,b3,b8]
  exact Is.mk _
 refine an (rt ?_)
 cases h
 exact absurd h2 jF
instance:aW 123 (∀p0 p1 r (h:vV p0 p1=some r),Sc 123 [aX (M.aJi.en p0),aX (M.bL.en p1)] [(true,M.aJi.rs r.1),rB r.2]):=⟨λp0 p1 r h=>by
 unfold vV at h
 simp only[EN]
 refine sgn 17 [.cell 4 84,.tmp 5] Tryz.func123 λbase wd => ?_
 refine sq (rn ?_)
 refine an (sq ?_)
 obtain⟨x1,h2,h⟩:=bind_some h
 refine rn1 (YH.1 _ _ h2) ?_
 refine an (sq ?_)
 obtain⟨x3,h4,h⟩:=bind_some h
 refine rn1 (aCS.1 _ _ h4) ?_
 refine an (sq ?_)
 obtain⟨x5,h6,h⟩:=bind_some h
 rcases cM x5.2 with b7 | b7
 ·replace h:=bK b7 h;refine rn1 (aAr _ _ _ h6 b7) ?_;refine an (rt ?_);cases h;simp[Ret,TB,EN, *]
 replace h:=bJ b7 h
 refine rn1 (aAw _ _ _ h6 b7) ?_
 refine an (rt ?_)
 cases h
 simp[Ret,TB,EN, *]⟩
instance:aW 238 (∀p0 p1 r (h:zQ p0 p1=some r),Sc 238 [aX (M.aA.en p0),aX (M.aJi.en p1)] [(true,M.aA.rs r.1),rB r.2]):=⟨λp0 p1 r h=>by
 have i1:=λ(x1:M.aA)=>inv λm s=>∃v8:Int,(s.t 2=vP 2 1 0/\s.t 3=vP 3 1 0/\s.t 4=vP 4 1 0/\s.t 6=vP 6 1 0/\s.t 8=vI v8/\s.h 2=(1,oX 39 (M.aA.en p0))/\s.h 3=(1,oX 84 (M.aJi.en p1))/\s.h 4=(1,oB 39 [.nil])/\s.h 6=(1,oB 39 [.row 100011 1])/\s.h 100011=(1,oW 84 24 M.aJi.en x1.aJp))/\lC p0 p1 x1 m v8=some r
 have e1:=@lC.eq_2
 unfold zQ at h
 exact sgo 74 [.cell 4 39,.tmp 5] Tryz.func238⟩
instance:aW 124 (∀p0 p1 p2 r (h:oU p0 p1 p2=some r),Sc 124 [aX (M.World.en p0),aX (M.aJi.en p1),aB p2] [(true,M.World.rs r.1),rB r.2]):=⟨λp0 p1 p2 r h=>by unfold oU at h;exact sgo 30 [.cell 6 50,.tmp 7] Tryz.func124⟩
instance:aW 36 (∀p0 p1 p2 p3 p4 r (h:tL p0 p1 p2 p3 p4=some r),Sc 36 [aX (M.World.en p0),aX (M.bD.en p1),aI p2,aS p3,aI p4] [(true,M.World.rs r.1),rB r.2]):=⟨λp0 p1 p2 p3 p4 r h=>by unfold tL at h;exact sgo 84 [.cell 10 50,.tmp 11] Tryz.func36⟩
instance:aW 242 (∀p0 r (h:Cg p0=some r),Sc 242 [aX (M.aE.en p0)] [(true,M.aD.rs r)]):=⟨λp0 r h=>by unfold Cg at h;exact sgo 10 [.cell 2 75] Tryz.func242⟩
instance:aW 125 (∀p0 p1 p2 p3 r (h:xW p0 p1 p2 p3=some r),Sc 125 [aX (M.aE.en p0),aX (M.Key.en p1),aS p2,aI p3] [(true,M.aE.rs r.1),rB r.2]):=⟨λp0 p1 p2 p3 r h=>by unfold xW at h;exact sgo 53 [.cell 8 82,.tmp 9] Tryz.func125⟩
instance:aW 126 (∀p0 p1 r (h:pF p0 p1=some r),Sc 126 [aX (M.aJi.en p0),aX (M.aE.en p1)] [(true,M.aJi.rs r.1),rB r.2]):=⟨λp0 p1 r h=>by
 unfold pF at h
 simp only[EN]
 refine sgn 17 [.cell 4 84,.tmp 5] Tryz.func126 λbase wd => ?_
 refine sq (rn ?_)
 refine an (sq ?_)
 obtain⟨x1,h2,h⟩:=bind_some h
 refine rn1 (YH.1 _ _ h2) ?_
 refine an (sq ?_)
 obtain⟨x3,h4,h⟩:=bind_some h
 refine rn1 (aB2.1 _ _ h4) ?_
 refine an (sq ?_)
 obtain⟨x5,h6,h⟩:=bind_some h
 rcases cM x5.2 with b7 | b7
 ·replace h:=bK b7 h;refine rn1 (aAr _ _ _ h6 b7) ?_;refine an (rt ?_);cases h;simp[Ret,TB,EN, *]
 replace h:=bJ b7 h
 refine rn1 (aAw _ _ _ h6 b7) ?_
 refine an (rt ?_)
 cases h
 simp[Ret,TB,EN, *]⟩
instance:aW 38 (∀p0 p1 p2 p3 p4 r (h:wR p0 p1 p2 p3 p4=some r),Sc 38 [aX (M.World.en p0),aX (M.bD.en p1),aI p2,aS p3,aI p4] [(true,M.World.rs r.1),rB r.2]):=⟨λp0 p1 p2 p3 p4 r h=>by unfold wR at h;exact sgo 60 [.cell 10 50,.tmp 11] Tryz.func38⟩
instance:aW 7 (∀p0 p1 r (h:Bh p0 p1=some r),Sc 7 [aX (M.World.en p0),aI p1] [(true,M.World.rs r.1),rI r.2]):=⟨λp0 p1 r h=>by unfold Bh at h;exact sgo 133 [.cell 4 50,.tmp 5] Tryz.func7⟩
theorem c13(p0 p1 r)(h:Cw p0 p1=some r):Sc 13 [aX (M.World.en p0),aI p1] [(true,M.World.rs r)]:=by
 have i1:=Mt [.b 5 3 7050000 84 24,.b 5 4 7050001 91 11,.b 5 6 7050002 144 4,.b 5 7 7050003 147 3,.b 5 8 7050004 151 4,.b 5 9 7050005 156 5] λm s=>∃v6:Int,∃aw:Int,∃ax:Bool,∃ay:Int,∃az:Int,∃j:List M.aJi,∃C:List M.bD,∃I:List M.eO,∃J:List M.iU,∃U:List M.aJr,∃aj:List M.aJv,∃ak:Nat,∃al:Nat,∃ao:Nat,∃aq:Nat,∃ar:Nat,∃av:Nat,(s.t 1=vI p1/\s.t 4=vP 4 1 0/\s.t 5=vP 5 1 0/\s.t 6=vI v6/\s.h 4=(1,YN)/\s.h 5=(1,oB 50 [cI aw,cB ax,cI ay,.row 7050000 ak,.row 7050001 al,cI az,.row 7050002 ao,.row 7050003 aq,.row 7050004 ar,.row 7050005 av])/\s.h 7050000=(ak,oW 84 24 M.aJi.en j)/\s.h 7050001=(al,oW 91 11 M.bD.en C)/\s.h 7050002=(ao,oW 144 4 M.eO.en I)/\s.h 7050003=(aq,oW 147 3 M.iU.en J)/\s.h 7050004=(ar,oW 151 4 M.aJr.en U)/\s.h 7050005=(av,oW 156 5 M.aJv.en aj))/\oF p1 m v6 aw ax ay az j C I J U aj=some r
 have e1:=@oF.eq_2
 unfold Cw at h
 exact sgo 26 [.cell 4 50] Tryz.func13
