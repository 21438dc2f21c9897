/-
  Helper text. No conditions.
-/
import Derived.Test.YtipmihbgjolaaaaGreatCompleteCachesTi
import Derived.Test.YtipmihbgjolaaaaGreatCompleteCachesWspec0
import Derived.Test.YtipmihbgjolaaaaGreatCompleteCachesWspec1
import Derived.Test.YtipmihbgjolaaaaGreatCompleteCachesWspec2
import Derived.Test.YtipmihbgjolaaaaGreatCompleteCachesWspec3
import Derived.Test.YtipmihbgjolaaaaGreatCompleteCachesWspec4
import Derived.Test.YtipmihbgjolaaaaGreatCompleteCachesWspec5
import Derived.Test.YtipmihbgjolaaaaGreatCompleteCachesWspec6
import Derived.Test.YtipmihbgjolaaaaGreatCompleteCachesWspec7
import Derived.Test.YtipmihbgjolaaaaGreatCompleteCachesWspec8
import Derived.Test.YtipmihbgjolaaaaGreatCompleteCachesWspec9
set_option linter.unusedVariables false
set_option linter.unusedSimpArgs false
namespace Go.Proofs.YtipmihbgjolaaaaGreat.gen
open Go Go.Sh
set_option maxRecDepth 20000
set_option maxHeartbeats 4000000
theorem aDQ (p0 r) (h:uL p0=some r):Sc 107 [aL enB p0] [(true,M.aC.rs r.1),(true,M.aGl.rs r.2.1),rI r.2.2.1,rS r.2.2.2.1,rB r.2.2.2.2]:=by unfold uL at h;exact sgo 46 [.cell 2 31,.cell 3 85,.tmp 4,.tmp 5,.tmp 6] Tryz.func107
instance:bF 107 (type_of% @aDQ):=⟨@aDQ⟩
theorem c35 (p0 r) (h:lX p0=some r):Sc 35 [aL enB p0] [(true,M.aC.rs r.1),(true,M.aGl.rs r.2.1),rI r.2.2]:=by unfold lX at h;exact sgo 21 [.cell 2 31,.cell 3 85,.tmp 4] Tryz.func35
theorem Xy (p0 r) (h:nD p0=some r):Sc 136 [aX (M.aG.en p0)] [rB r]:=by unfold nD at h;exact sgo 50 [.tmp 2] Tryz.func136
instance:bF 136 (type_of% @Xy):=⟨@Xy⟩
theorem c56 (p0 r) (h:cN p0=some r):Sc 56 [aX (M.aA.en p0)] [rB r]:=by
 have i1:=inv λm s=>∃v3:Int,(s.t 1=vP 1 1 0/\s.t 3=vI v3/\s.h 1=(1,oX 26 (M.aA.en p0)))/\gH p0 m v3=some r
 have e1:=@gH.eq_2
 unfold cN at h
 exact sgo 48 [.tmp 2] Tryz.func56
instance:bF 56 (type_of% @c56):=⟨@c56⟩
theorem aBh (p0 p1 p2 r) (h:rN p0 p1 p2=some r):Sc 206 [aS p0,aS p1,aI p2] [(true,M.aG.rs r.1),rB r.2]:=by unfold rN at h;exact sgo 42 [.cell 6 49,.tmp 7] Tryz.func206
instance:bF 206 (type_of% @aBh):=⟨@aBh⟩
theorem aE1 (p0 p1 p2 r) (h:nP p0 p1 p2=some r):Sc 103 [aX (M.World.en p0),aX (M.bJ.en p1),aS p2] [(true,M.aGm.rs r)]:=by unfold nP at h;exact sgo 44 [.cell 6 105] Tryz.func103
instance:bF 103 (type_of% @aE1):=⟨@aE1⟩
theorem aA3 (p0 p1:M.aG) (r:(M.aG×Bool)) (h:rX p0 p1=some r) (h2:r.2=false):kR Tryz.prog 398 [(true,M.aG.en p0),(true,M.aG.en p1)] [(true,[.ro (.str r.1.aGl),.ro (.str r.1.Top),.ro (.str r.1.aGf.aGl),.ro (.int .i64 r.1.aGf.aG6),.ro (.int .i64 r.1.aGf.aHC),.ro (.int .i64 r.1.aGf.aHF),.own 193 2 (List.map M.aGo.en r.1.aGi.aGi),.ro (.str r.1.bW.aG4.Name),.ro (.int .i64 r.1.bW.aG4.aGg),.own 40 3 (List.map M.aD.en r.1.bW.aG4.aGq),.own 282 2 (List.map M.aO.en r.1.bW.aG4.aG3),.own 5 1 (List.map enB r.1.bW.Log),.ro (.int .i64 r.1.bW.aHM),.ro (.str r.1.aH.aG4.Name),.own 284 4 (List.map M.aG1.en r.1.aH.aG4.aGk),.ro (.int .i64 r.1.aH.aG4.aHD),.ro (.int .i64 r.1.aH.aHS),.ro (.int .i64 r.1.aH.aG5.aM.aGp),.ro (.int .i64 r.1.aH.aG5.aM.aHH),.own 211 7 (List.map M.bC.en r.1.aH.aG5.aM.aG0),.ro (.int .i64 r.1.aH.aG5.aHL),.ro (.int .i64 r.1.aH.aG5.aHB),.ro (.int .i64 r.1.aHI),.ro (.bool r.1.aHE)]),(false,[.ro (.bool r.2)])]:=by
 unfold rX at h
 simp only [M.aG.en]
 refine Nm (N:=17) (vars:=[.cell 4 49,.tmp 5]) Tryz.func398 rfl rfl rfl qf (Nat.le_of_ble_eq_true rfl) λbase wd => ?_
 refine sq ?_
 apply bY
 ·simp +decide only [E,reduceIte,Nat.reduceAdd,Nat.reduceMul,qB,qC,L,Hc,EN];exact Is.mk _
 refine an (sq (sq ?_))
 obtain ⟨x1,h2,h⟩:=bind_some h
 rcases oQ (!x1) with b3 | b3
 ·replace h:=cT b3 h
  apply bY
  ·simp +decide only [E,reduceIte,Nat.reduceAdd,Nat.reduceMul,qB,qC,L,Hc,EN,b3]
   refine ⟨_,Xy _ _ h2,?_⟩
   try simp +decide only [E,reduceIte,Nat.reduceAdd,Nat.reduceMul,qB,qC,L,Hc,EN,b3]
   exact Is.mk _
  refine an ?_
  refine Dg (by simp +decide only [F,reduceIte,Nat.reduceAdd,qB,qC,b3]) ?_
  refine sq ?_
  obtain ⟨x4,h5,h⟩:=bind_some h
  apply bY
  ·simp +decide only [E,reduceIte,Nat.reduceAdd,Nat.reduceMul,qB,qC,L,Hc,EN,b3]
   refine ⟨_,c54 _ _ h5,?_⟩
   try simp +decide only [E,reduceIte,Nat.reduceAdd,Nat.reduceMul,qB,qC,L,Hc,EN,b3]
   exact Is.mk _
  refine an (rt ?_)
  cases h
  simp [Ret,EN,Hc,M.aGo.en,M.aO.en,M.aG1.en,M.aD.en,M.bC.en,enB,b3]
 replace h:=cR b3 h
 obtain ⟨x6,h7,h⟩:=bind_some h
 apply bY
 ·simp +decide only [E,reduceIte,Nat.reduceAdd,Nat.reduceMul,qB,qC,L,Hc,EN,b3]
  refine ⟨_,Xy _ _ h2,?_⟩
  try simp +decide only [E,reduceIte,Nat.reduceAdd,Nat.reduceMul,qB,qC,L,Hc,EN,b3]
  refine ⟨_,Xy _ _ h7,?_⟩
  try simp +decide only [E,reduceIte,Nat.reduceAdd,Nat.reduceMul,qB,qC,L,Hc,EN,b3]
  exact Is.mk _
 refine an ?_
 rcases CH (!x6) with b8 | b8
 ·replace h:=cR b8 h;refine EJ (by simp +decide only [F,reduceIte,Nat.reduceAdd,qB,qC,b3,b8]) ?_;refine sk (an (sq ?_));apply bY;(simp +decide only [E,reduceIte,Nat.reduceAdd,Nat.reduceMul,qB,qC,L,Hc,EN,b3,b8];exact Is.mk _);refine an (rt ?_);cases h;exact absurd h2 qd
 replace h:=cT b8 h
 refine Dg (by simp +decide only [F,reduceIte,Nat.reduceAdd,qB,qC,b3,b8]) ?_
 refine sq ?_
 obtain ⟨x9,aa,h⟩:=bind_some h
 apply bY
 ·simp +decide only [E,reduceIte,Nat.reduceAdd,Nat.reduceMul,qB,qC,L,Hc,EN,b3,b8]
  refine ⟨_,c54 _ _ aa,?_⟩
  try simp +decide only [E,reduceIte,Nat.reduceAdd,Nat.reduceMul,qB,qC,L,Hc,EN,b3,b8]
  exact Is.mk _
 refine an (rt ?_)
 cases h
 simp [Ret,EN,Hc,M.aGo.en,M.aO.en,M.aG1.en,M.aD.en,M.bC.en,enB,b3,b8]
theorem aBC (p0 p1:M.aG) (r:(M.aG×Bool)) (h:rX p0 p1=some r) (h2:r.2=true):kR Tryz.prog 398 [(true,M.aG.en p0),(true,M.aG.en p1)] [(false,[.edit .pass])]:=by
 unfold rX at h
 simp only [M.aG.en]
 refine Yn (N:=17) (vars:=[.cell 4 49,.tmp 5]) Tryz.func398 rfl rfl rfl qf qe λbase wd us => ?_
 refine sq ?_
 apply bY
 ·simp +decide only [LP,E,reduceIte,Nat.reduceAdd,Nat.reduceMul,qB,qC,L,Hc,EN];exact Is.mk _
 refine an (sq (sq ?_))
 obtain ⟨x1,h2,h⟩:=bind_some h
 rcases oQ (!x1) with b3 | b3
 ·replace h:=cT b3 h
  apply bY
  ·simp +decide only [LP,E,reduceIte,Nat.reduceAdd,Nat.reduceMul,qB,qC,L,Hc,EN,b3]
   refine ⟨_,Xy _ _ h2,?_⟩
   try simp +decide only [LP,E,reduceIte,Nat.reduceAdd,Nat.reduceMul,qB,qC,L,Hc,EN,b3]
   exact Is.mk _
  refine an ?_
  refine Dg (by simp +decide only [LP,F,reduceIte,Nat.reduceAdd,qB,qC,b3]) ?_
  refine sq ?_
  obtain ⟨x4,h5,h⟩:=bind_some h
  apply bY
  ·simp +decide only [LP,E,reduceIte,Nat.reduceAdd,Nat.reduceMul,qB,qC,L,Hc,EN,b3]
   refine ⟨_,c54 _ _ h5,?_⟩
   try simp +decide only [LP,E,reduceIte,Nat.reduceAdd,Nat.reduceMul,qB,qC,L,Hc,EN,b3]
   exact Is.mk _
  refine an (rt ?_)
  cases h
  exact absurd h2 qd
 replace h:=cR b3 h
 obtain ⟨x6,h7,h⟩:=bind_some h
 apply bY
 ·simp +decide only [LP,E,reduceIte,Nat.reduceAdd,Nat.reduceMul,qB,qC,L,Hc,EN,b3]
  refine ⟨_,Xy _ _ h2,?_⟩
  try simp +decide only [LP,E,reduceIte,Nat.reduceAdd,Nat.reduceMul,qB,qC,L,Hc,EN,b3]
  refine ⟨_,Xy _ _ h7,?_⟩
  try simp +decide only [LP,E,reduceIte,Nat.reduceAdd,Nat.reduceMul,qB,qC,L,Hc,EN,b3]
  exact Is.mk _
 refine an ?_
 rcases CH (!x6) with b8 | b8
 ·replace h:=cR b8 h;refine EJ (by simp +decide only [LP,F,reduceIte,Nat.reduceAdd,qB,qC,b3,b8]) ?_;refine sk (an (sq ?_));apply bY;(simp +decide only [LP,E,reduceIte,Nat.reduceAdd,Nat.reduceMul,qB,qC,L,Hc,EN,b3,b8];exact Is.mk _);refine an (rt ?_);cases h;simp [aBY,LP,M.aG.en,Hc,b3,b8]
 replace h:=cT b8 h
 refine Dg (by simp +decide only [LP,F,reduceIte,Nat.reduceAdd,qB,qC,b3,b8]) ?_
 refine sq ?_
 obtain ⟨x9,aa,h⟩:=bind_some h
 apply bY
 ·simp +decide only [LP,E,reduceIte,Nat.reduceAdd,Nat.reduceMul,qB,qC,L,Hc,EN,b3,b8]
  refine ⟨_,c54 _ _ aa,?_⟩
  try simp +decide only [LP,E,reduceIte,Nat.reduceAdd,Nat.reduceMul,qB,qC,L,Hc,EN,b3,b8]
  exact Is.mk _
 refine an (rt ?_)
 cases h
 exact absurd h2 qd
theorem aEH (p0 p1 r) (h:yG p0 p1=some r):Sc 279 [aX (M.aGh.en p0),aL M.Op.en p1] [(true,M.aGh.rs r.1),rW 3 1 enI r.2.1,rB r.2.2]:=by
 have i1:=D5 [.b 7 2 7050000 40 3,.b 7 3 7050001 282 2] λm s=>∃v9:Int,∃ai:ByteArray,∃aj:Int,∃ak:List Int,∃aa:List M.aD,∃ae:List M.aO,∃al:Nat,∃af:Nat,∃ah:Nat,(s.t 1=vL M.Op.en p1/\s.t 2=vP 2 1 0/\s.t 4=vP 4 1 0/\s.t 7=vP 7 1 0/\s.t 8=vR 100015 al/\s.t 9=vI v9/\s.h 2=(1,oX 35 (M.aGh.en p0))/\s.h 4=(1,LF)/\s.h 7=(1,oB 35 [cS ai,cI aj,.row 7050000 af,.row 7050001 ah])/\s.h 100015=(al,oW 3 1 enI ak)/\s.h 7050000=(af,oW 40 3 M.aD.en aa)/\s.h 7050001=(ah,oW 282 2 M.aO.en ae))/\uS p0 p1 m v9 ai aj ak aa ae=some r
 have e1:=@uS.eq_2
 unfold yG at h
 exact sgo 54 [.cell 4 35,.tmp 5,.tmp 6] Tryz.func279
instance:bF 279 (type_of% @aEH):=⟨@aEH⟩
theorem aC8 (p0 r) (h:Ab p0=some r):Sc 278 [aX (M.bW.en p0)] [(true,M.aGh.rs r.1),rI r.2]:=by
 have i1:=λ(x3:((List (List Int))×Int))=>D5 [.b 4 2 7050000 40 3,.b 4 3 7050001 282 2] λm s=>∃v7:Int,∃ai:ByteArray,∃aj:Int,∃aa:List M.aD,∃ae:List M.aO,∃af:Nat,∃ah:Nat,(s.t 2=vP 2 1 0/\s.t 4=vP 4 1 0/\s.t 5=vR 100019 1/\s.t 7=vI v7/\s.h 2=(1,LF)/\s.h 4=(1,oB 35 [cS ai,cI aj,.row 7050000 af,.row 7050001 ah])/\s.h 100019=(1,oW 22 1 (enL enB) x3.1)/\s.h 7050000=(af,oW 40 3 M.aD.en aa)/\s.h 7050001=(ah,oW 282 2 M.aO.en ae))/\rG x3 m v7 ai aj aa ae=some r
 have e1:=@rG.eq_2
 unfold Ab at h
 exact sgo 51 [.cell 2 35,.tmp 3] Tryz.func278
instance:bF 278 (type_of% @aC8):=⟨@aC8⟩
theorem aA1 (p0 p1 p2 p3 r) (h:mA p0 p1 p2 p3=some r):Sc 210 [aX (M.aH.en p0),aX (M.Key.en p1),aS p2,aI p3] [(true,M.aH.rs r.1),rB r.2]:=by unfold mA at h;exact sgo 53 [.cell 8 47,.tmp 9] Tryz.func210
instance:bF 210 (type_of% @aA1):=⟨@aA1⟩
theorem aBr (p0 r) (h:BM p0=some r):Sc 286 [(false,[.ptr [.sl (List.map enB p0.b),.int .i64 p0.i,.int .i64 p0.h]])] [(false,[.edit (.lend 182 [.int .i64 r.1,.int .i64 r.2.1])]),(true,M.aGh.rs r.2.2)]:=by
 unfold BM at h
 simp only [EN]
 refine sgB 34 [.cell 2 35] Tryz.func286 λbase wd B0 u0 hw0 => ?_
 refine eA (J:=λs=>s.t 0=vP 7059000 1 0/\s.h 7059000=(1,oB 182 [.old B0 (.sl (List.map enB p0.b)) (some u0),cI p0.i,cI p0.h])/\True) ?_ ?_
 ·and_intros<;>(try simp only [LN,List.map_cons,List.map_nil])<;>rfl
 rintro s1 f2
 exact sgX
instance:bF 286 (type_of% @aBr):=⟨@aBr⟩
theorem aEr (p0 r) (h:Bd p0=some r):Sc 218 [(false,[.ptr [.sl (List.map enB p0.b),.int .i64 p0.i,.int .i64 p0.h]])] [(false,[.edit (.lend 182 [.int .i64 r.1,.int .i64 r.2.1])]),(true,M.aH.rs r.2.2.1),(true,M.aGr.rs r.2.2.2)]:=by
 unfold Bd at h
 simp only [EN]
 refine sgB 89 [.cell 2 47,.cell 3 137] Tryz.func218 λbase wd B0 u0 hw0 => ?_
 refine eA (J:=λs=>s.t 0=vP 7059000 1 0/\s.h 7059000=(1,oB 182 [.old B0 (.sl (List.map enB p0.b)) (some u0),cI p0.i,cI p0.h])/\True) ?_ ?_
 ·and_intros<;>(try simp only [LN,List.map_cons,List.map_nil])<;>rfl
 rintro s1 f2
 have i1:=λ(s6:St)=>D5 [.b 5 1 7050000 284 4,.b 5 6 7050001 211 7,.b 4 1 7050002 284 4,.b 4 3 7050003 207 2,.b 4 4 7050004 211 7] λm s=>∃v7:Int,∃aw:ByteArray,∃ax:Int,∃ay:Int,∃az:Int,∃ba:Int,∃bd:Int,∃bf:Int,∃aa:Int,∃ae:Int,∃bg:ByteArray,∃bh:Int,∃af:List M.aG1,∃ah:List M.bC,∃ai:List M.aG1,∃aj:List M.aP,∃ak:List M.bC,∃al:Nat,∃ao:Nat,∃aq:Nat,∃ar:Nat,∃av:Nat,(s.t 0=vP 7059000 1 0/\s.t 2=vP 2 ((s1.h 2).1+1) 0/\s.t 3=vP 3 ((s1.h 3).1+1) 0/\s.t 4=vP 4 ((s1.h 4).1+1) 0/\s.t 5=vP 5 ((s6.h 5).1+1) 0/\s.t 7=vI v7/\s.h 2=(((s1.h 2).1+1),aBw)/\s.h 3=(((s1.h 3).1+1),VW)/\s.h 4=(((s1.h 4).1+1),oB 137 [cS bg,.row 7050002 al,cI bh,.row 7050003 ao,.row 7050004 aq])/\s.h 5=(((s6.h 5).1+1),oB 47 [cS aw,.row 7050000 ar,cI ax,cI ay,cI az,cI ba,.row 7050001 av,cI bd,cI bf])/\s.h 7050000=(ar,oW 284 4 M.aG1.en af)/\s.h 7050001=(av,oW 211 7 M.bC.en ah)/\s.h 7050002=(al,oW 284 4 M.aG1.en ai)/\s.h 7050003=(ao,oW 207 2 M.aP.en aj)/\s.h 7050004=(aq,oW 211 7 M.bC.en ak)/\s.h 7059000=(1,oB 182 [.old B0 (.sl (List.map enB p0.b)) (some u0),cI aa,cI ae]))/\fE p0 m v7 aw ax ay az ba bd bf aa ae bg bh af ah ai aj ak=some r
 have e1:=@fE.eq_2
 exact sgX
instance:bF 218 (type_of% @aEr):=⟨@aEr⟩
theorem aGZ (p0 r) (h:AG p0=some r):Sc 156 [(false,[.ptr [.sl (List.map enB p0.b),.int .i64 p0.i,.int .i64 p0.h]])] [(false,[.edit (.lend 182 [.int .i64 r.1,.int .i64 r.2.1])]),(true,M.aGr.rs r.2.2)]:=by
 unfold AG at h
 simp only [EN]
 refine sgB 52 [.cell 2 137] Tryz.func156 λbase wd B0 u0 hw0 => ?_
 refine eA (J:=λs=>s.t 0=vP 7059000 1 0/\s.h 7059000=(1,oB 182 [.old B0 (.sl (List.map enB p0.b)) (some u0),cI p0.i,cI p0.h])/\True) ?_ ?_
 ·and_intros<;>(try simp only [LN,List.map_cons,List.map_nil])<;>rfl
 rintro s1 f2
 have i1:=λ(x4:(Int×Int×M.aGr)) (af:(Int×Int×Int)) (ah:St)=>D5 [.b 3 3 7050000 207 2] λm s=>∃v4:Int,∃aa:List M.aP,∃ae:Nat,(s.h 7059000=ah.h 7059000/\s.t 0=vP 7059000 1 0/\s.t 2=vP 2 ((s1.h 2).1+1) 0/\s.t 3=vP 3 ((s1.h 3).1+1) 0/\s.t 4=vI v4/\s.h 2=(((s1.h 2).1+1),VW)/\s.h 3=(((s1.h 3).1+1),oB 137 [cS x4.2.2.aD.Name,.row 200006 ((s1.h 200006).1+1),cI x4.2.2.aD.aHD,.row 7050000 ae,.row 500006 ((s1.h 500006).1+1)])/\s.h 200006=(((s1.h 200006).1+1),oW 284 4 M.aG1.en x4.2.2.aD.aGk)/\s.h 500006=(((s1.h 500006).1+1),oW 211 7 M.bC.en x4.2.2.aG9)/\s.h 7050000=(ae,oW 207 2 M.aP.en aa))/\vJ x4 af m v4 aa=some r
 have e1:=@vJ.eq_2
 exact sgX
end Go.Proofs.YtipmihbgjolaaaaGreat.gen
