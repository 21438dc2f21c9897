/-
  Helper text. No conditions.
-/
import Derived.Test.YtipmihbgjolaaaaGreatCompleteCachesTi
import Derived.Test.YtipmihbgjolaaaaGreatCompleteCachesWspec0
import Derived.Test.YtipmihbgjolaaaaGreatCompleteCachesWspec1
import Derived.Test.YtipmihbgjolaaaaGreatCompleteCachesWspec2
import Derived.Test.YtipmihbgjolaaaaGreatCompleteCachesWspec3
set_option linter.unusedVariables false
set_option linter.unusedSimpArgs false
namespace Go.Proofs.YtipmihbgjolaaaaGreat.gen
open Go Go.Sh
set_option maxRecDepth 20000
set_option maxHeartbeats 4000000
theorem aEc (p0 p1 r) (h:nL p0 p1=some r):Sc 198 [aX (M.aGl.en p0),aI p1] [rB r]:=by unfold nL at h;exact sgo 18 [.tmp 4] Tryz.func198
instance:bF 198 (type_of% @aEc):=⟨@aEc⟩
theorem aB1 (p0 p1 r) (h:uZ p0 p1=some r):Sc 117 [aI p0,aL enI p1] [rI r]:=by unfold uZ at h;exact sgo 13 [.tmp 4] Tryz.func117
instance:bF 117 (type_of% @aB1):=⟨@aB1⟩
theorem aD6 (p0 p1 r) (h:iX p0 p1=some r):Sc 118 [aI p0,aS p1] [rI r]:=by unfold iX at h;exact sgo 11 [.tmp 4] Tryz.func118
instance:bF 118 (type_of% @aD6):=⟨@aD6⟩
theorem aEt (p0 r) (h:mL p0=some r):Sc 159 [aX (M.aD.en p0)] [rB r]:=by
 have i1:=inv λm s=>∃v3:Int,(s.t 1=vP 1 1 0/\s.t 3=vI v3/\s.h 1=(1,oX 40 (M.aD.en p0)))/\jD p0 m v3=some r
 have e1:=@jD.eq_2
 unfold mL at h
 exact sgo 64 [.tmp 2] Tryz.func159
instance:bF 159 (type_of% @aEt):=⟨@aEt⟩
theorem c85 (p0 r) (h:pR p0=some r):Sc 85 [aX (M.aGr.en p0)] [rB r]:=by
 have i1:=inv λm s=>∃v3:Int,(s.t 1=vP 1 1 0/\s.t 3=vI v3/\s.h 1=(1,oX 137 (M.aGr.en p0)))/\hU p0 m v3=some r
 have e1:=@hU.eq_2
 have i2:=inv λm s=>∃v4:Int,(s.t 1=vP 1 1 0/\s.t 4=vI v4/\s.h 1=(1,oX 137 (M.aGr.en p0)))/\jS p0 m v4=some r
 have e2:=@jS.eq_2
 unfold pR at h
 exact sgo 79 [.tmp 2] Tryz.func85
instance:bF 85 (type_of% @c85):=⟨@c85⟩
theorem aEY (p0 r) (h:iN p0=some r):Sc 301 [aX (M.aM.en p0)] [rB r]:=by
 have i1:=inv λm s=>∃v4:Int,(s.t 1=vP 1 1 0/\s.t 3=vI (List.length p0.aG0:Int)/\s.t 4=vI v4/\s.h 1=(1,oX 43 (M.aM.en p0)))/\mQ p0 m v4=some r
 have e1:=@mQ.eq_2
 unfold iN at h
 exact sgo 60 [.tmp 2] Tryz.func301
instance:bF 301 (type_of% @aEY):=⟨@aEY⟩
theorem aEi (p0 r) (h:nO p0=some r):Sc 237 [aX (M.aH.en p0)] [rB r]:=by unfold nO at h;exact sgo 23 [.tmp 2] Tryz.func237
instance:bF 237 (type_of% @aEi):=⟨@aEi⟩
theorem aEq (p0 r) (h:gG p0=some r):Sc 346 [aX (M.aE.en p0)] [rW 5 1 enB r]:=by
 have i1:=D5 [.t 3 7050000 5 1] λm s=>∃v4:Int,∃aa:List Int,∃ae:Nat,(s.t 1=vP 1 1 0/\s.t 3=vR 7050000 ae/\s.t 4=vI v4/\s.h 1=(1,oX 254 (M.aE.en p0))/\s.h 7050000=(ae,oW 5 1 enB aa))/\cW p0 m v4 aa=some r
 have e1:=@cW.eq_2
 unfold gG at h
 exact sgo 38 [.tmp 2] Tryz.func346
instance:bF 346 (type_of% @aEq):=⟨@aEq⟩
theorem aFe (p0 r) (h:vE p0=some r):Sc 317 [aX (M.aD.en p0)] [rI r]:=by
 have i1:=inv λm s=>∃v3:Int,∃v4:Int,(s.t 1=vP 1 1 0/\s.t 3=vI v3/\s.t 4=vI v4/\s.h 1=(1,oX 40 (M.aD.en p0)))/\lI p0 m v3 v4=some r
 have e1:=@lI.eq_2
 unfold vE at h
 exact sgo 32 [.tmp 2] Tryz.func317
instance:bF 317 (type_of% @aFe):=⟨@aFe⟩
theorem aBz (p0 r) (h:sW p0=some r):Sc 265 [(false,[.ptr [.sl (List.map enB p0.b),.int .i64 p0.i,.int .i64 p0.h]])] [(false,[.edit (.lend 182 [.int .i64 r.1,.int .i64 r.2.1])]),rS r.2.2]:=by
 unfold sW at h
 simp only [EN]
 refine sgB 6 [.tmp 2] Tryz.func265 λbase wd B0 u0 hw0 => ?_
 refine eA (J:=λs=>s.t 0=vP 7059000 1 0/\s.h 7059000=(1,oB 182 [.old B0 (.sl (List.map enB p0.b)) (some u0),cI p0.i,cI p0.h])/\True) ?_ ?_
 ·and_intros<;>(try simp only [LN,List.map_cons,List.map_nil])<;>rfl
 rintro s1 f2
 exact sgX
instance:bF 265 (type_of% @aBz):=⟨@aBz⟩
theorem aFU (p0 r) (h:nQ p0=some r):Sc 277 [aI p0] [(true,M.aM.rs r.1),rB r.2]:=by unfold nQ at h;exact sgo 12 [.cell 2 43,.tmp 3] Tryz.func277
instance:bF 277 (type_of% @aFU):=⟨@aFU⟩
theorem aFC (p0 p1 r) (h:uA p0 p1=some r):Sc 376 [aX (M.aGf.en p0),aI p1] [(true,M.aGf.rs r.1),rB r.2]:=by unfold uA at h;exact sgo 29 [.cell 4 28,.tmp 5] Tryz.func376
instance:bF 376 (type_of% @aFC):=⟨@aFC⟩
theorem aEC (p0 p1 r) (h:vD p0 p1=some r):Sc 379 [aX (M.aC.en p0),aI p1] [(true,M.aC.rs r.1),rB r.2]:=by
 unfold vD at h
 simp only [EN]
 refine sgn 28 [.cell 4 31,.tmp 5] Tryz.func379 λbase wd => ?_
 refine sq (rn ?_)
 refine an (sq ?_)
 obtain ⟨x1,h2,h⟩:=bind_some h
 refine rn1 (Xb _ _ h2) ?_
 refine an (sq ?_)
 obtain ⟨x3,h4,h⟩:=bind_some h
 refine rn1 (aAW _ _ _ h4) ?_
 refine an (sq (sq (rn ?_)))
 refine an ?_
 rcases oQ (decide (x3<0)) with b5 | b5
 ·replace h:=cT b5 h;refine ct (sq (rn ?_));refine an (rt ?_);cases h;simp [Ret,TB,EN, *]
 replace h:=cR b5 h
 refine cf (sk (an (sq ?_)))
 obtain ⟨x6,h7,h⟩:=bind_some h
 obtain ⟨x8,h9,h⟩:=bind_some h
 obtain ⟨ae,aa,h⟩:=bind_some h
 apply Bv mixed
 ·simp +decide only [E,reduceIte,Nat.reduceAdd,Nat.reduceMul,qB,qC,<-List.map_take,<-List.map_drop,Nat.sub_zero,L,N1,Bs,DV,M.aGo.en,EN,b5]
  refine ⟨by first | exact pD h7 | exact (pD h7).2 | exact (pD h7).2.2,?_⟩
  try simp +decide only [E,reduceIte,Nat.reduceAdd,Nat.reduceMul,qB,qC,<-List.map_take,<-List.map_drop,Nat.sub_zero,L,N1,Bs,DV,M.aGo.en,EN,b5]
  refine ⟨by first | exact Ds h9 | exact (Ds h9).2 | exact (Ds h9).2.2,?_⟩
  try simp +decide only [E,reduceIte,Nat.reduceAdd,Nat.reduceMul,qB,qC,<-List.map_take,<-List.map_drop,Nat.sub_zero,L,N1,Bs,DV,M.aGo.en,EN,b5]
  refine ⟨by first | exact Ee (f:=M.aGo.en) (sz:=2) (λ_=>rfl) qe h7 h9 aa | (have hb:=Ee (f:=M.aGo.en) (sz:=2) (λ_=>rfl) qe h7 h9 aa;simpa using hb),?_⟩
  try simp +decide only [E,reduceIte,Nat.reduceAdd,Nat.reduceMul,qB,qC,<-List.map_take,<-List.map_drop,Nat.sub_zero,L,N1,Bs,DV,M.aGo.en,EN,b5]
  exact ⟨.mk qf,Is.mk _⟩
 refine an (sq (rn ?_))
 refine an (rt ?_)
 cases h
 simp [Ret,TB,EN, *]
instance:bF 379 (type_of% @aEC):=⟨@aEC⟩
theorem aEI (p0 p1 r) (h:CS p0 p1=some r):Sc 408 [aL enB p0,aI p1] [(true,M.aE.rs r.1),rI r.2.1,rB r.2.2]:=by
 have i1:=λ(x1:(Int×Int×Bool))=>D5 [.b 10 0 7050000 356 2] λm s=>∃v8:Int,∃v11:Int,∃aa:List M.Field,∃ae:Nat,(s.t 0=vL enB p0/\s.t 4=vP 4 1 0/\s.t 7=vI x1.1/\s.t 8=vI v8/\s.t 10=vP 10 1 0/\s.t 11=vI v11/\s.h 4=(1,oB 254 [.nil])/\s.h 10=(1,oB 254 [.row 7050000 ae])/\s.h 7050000=(ae,oW 356 2 M.Field.en aa))/\rT p0 x1 m v8 v11 aa=some r
 have e1:=@rT.eq_2
 unfold CS at h
 exact sgo 72 [.cell 4 254,.tmp 5,.tmp 6] Tryz.func408
instance:bF 408 (type_of% @aEI):=⟨@aEI⟩
theorem aCp (p0 r) (h:oZ p0=some r):Sc 401 [aL enB p0] [(true,M.aE.rs r.1),rB r.2]:=by unfold oZ at h;exact sgo 23 [.cell 2 254,.tmp 3] Tryz.func401
instance:bF 401 (type_of% @aCp):=⟨@aCp⟩
theorem aEy (p0 r) (h:B9 p0=some r):Sc 344 [aX (M.Op.en p0)] [rB r]:=by unfold B9 at h;exact sgo 46 [.tmp 2] Tryz.func344
instance:bF 344 (type_of% @aEy):=⟨@aEy⟩
theorem aET (p0 r) (h:uR p0=some r):Sc 280 [aL M.Op.en p0] [rW 5 1 enB r]:=by
 have i1:=D5 [.t 3 7050000 5 1] λm s=>∃v4:Int,∃aa:List Int,∃ae:Nat,(s.t 0=vL M.Op.en p0/\s.t 3=vR 7050000 ae/\s.t 4=vI v4/\s.h 7050000=(ae,oW 5 1 enB aa))/\oM p0 m v4 aa=some r
 have e1:=@oM.eq_2
 unfold uR at h
 exact sgo 64 [.tmp 2] Tryz.func280
instance:bF 280 (type_of% @aET):=⟨@aET⟩
theorem aEG (p0 p1 p2 r) (h:eF p0 p1 p2=some r):Sc 349 [aX (M.aD.en p0),aX (M.Key.en p1),aX (M.aE.en p2)] [(true,M.aD.rs r.1),rB r.2]:=by
 have i1:=λ(aa:M.aD)=>inv λm s=>∃v10:Int,(s.t 3=vP 3 1 0/\s.t 4=vP 4 1 0/\s.t 5=vP 5 1 0/\s.t 6=vP 6 1 0/\s.t 8=vP 8 1 0/\s.t 10=vI v10/\s.h 3=(1,oX 40 (M.aD.en p0))/\s.h 4=(1,oX 209 (M.Key.en p1))/\s.h 5=(1,oX 254 (M.aE.en p2))/\s.h 6=(1,oB 40 [cS (⟨#[]⟩:ByteArray),.nil,cI 0])/\s.h 8=(1,oB 40 [cS aa.Name,.row 200028 1,cI aa.aHD])/\s.h 200028=(1,oW 284 4 M.aG1.en aa.aGk))/\oY p0 p1 p2 aa m v10=some r
 have e1:=@oY.eq_2
 unfold eF at h
 exact sgo 100 [.cell 6 40,.tmp 7] Tryz.func349
instance:bF 349 (type_of% @aEG):=⟨@aEG⟩
theorem aDS (p0 p1 r) (h:yT p0 p1=some r):Sc 409 [aX (M.Key.en p0),aX (M.gK.en p1)] [rB r]:=by unfold yT at h;exact sgo 50 [.tmp 4] Tryz.func409
instance:bF 409 (type_of% @aDS):=⟨@aDS⟩
theorem aE7 (p0 p1 r) (h:rM p0 p1=some r):Sc 402 [aX (M.aD.en p0),aX (M.gK.en p1)] [(true,M.aD.rs r.1),rI r.2]:=by
 have i1:=D5 [.b 6 1 7050000 284 4] λm s=>∃v7:Int,∃aa:List M.aG1,∃ae:Nat,(s.t 2=vP 2 1 0/\s.t 3=vP 3 1 0/\s.t 4=vP 4 1 0/\s.t 6=vP 6 1 0/\s.t 7=vI v7/\s.h 2=(1,oX 40 (M.aD.en p0))/\s.h 3=(1,oX 426 (M.gK.en p1))/\s.h 4=(1,oB 40 [cS (⟨#[]⟩:ByteArray),.nil,cI 0])/\s.h 6=(1,oB 40 [cS p0.Name,.row 7050000 ae,cI p0.aHD])/\s.h 7050000=(ae,oW 284 4 M.aG1.en aa))/\iK p0 p1 m v7 aa=some r
 have e1:=@iK.eq_2
 unfold rM at h
 exact sgo 53 [.cell 4 40,.tmp 5] Tryz.func402
instance:bF 402 (type_of% @aE7):=⟨@aE7⟩
theorem aCe (p0 p1 p2 p3 r) (h:iL p0 p1 p2 p3=some r):Sc 282 [aX (M.aM.en p0),aX (M.Key.en p1),aS p2,aI p3] [(true,M.aM.rs r.1),rB r.2]:=by unfold iL at h;exact sgo 40 [.cell 8 43,.tmp 9] Tryz.func282
instance:bF 282 (type_of% @aCe):=⟨@aCe⟩
theorem aE3 (p0 r) (h:xE p0=some r):Sc 391 [(false,[.ptr [.sl (List.map enB p0.b),.int .i64 p0.i,.int .i64 p0.h]])] [(false,[.edit (.lend 182 [.int .i64 r.1,.int .i64 r.2.1])]),rI r.2.2]:=by
 unfold xE at h
 simp only [EN]
 refine sgB 8 [.tmp 2] Tryz.func391 λbase wd B0 u0 hw0 => ?_
 refine eA (J:=λs=>s.t 0=vP 7059000 1 0/\s.h 7059000=(1,oB 182 [.old B0 (.sl (List.map enB p0.b)) (some u0),cI p0.i,cI p0.h])/\True) ?_ ?_
 ·and_intros<;>(try simp only [LN,List.map_cons,List.map_nil])<;>rfl
 rintro s1 f2
 exact sgX
instance:bF 391 (type_of% @aE3):=⟨@aE3⟩
theorem aDX (p0 r) (h:Br p0=some r):Sc 358 [(false,[.ptr [.sl (List.map enB p0.b),.int .i64 p0.i,.int .i64 p0.h]])] [(false,[.edit (.lend 182 [.int .i64 r.1,.int .i64 r.2.1])]),(true,M.Key.rs r.2.2)]:=by
 unfold Br at h
 simp only [EN]
 refine sgB 22 [.cell 2 209] Tryz.func358 λbase wd B0 u0 hw0 => ?_
 refine eA (J:=λs=>s.t 0=vP 7059000 1 0/\s.h 7059000=(1,oB 182 [.old B0 (.sl (List.map enB p0.b)) (some u0),cI p0.i,cI p0.h])/\True) ?_ ?_
 ·and_intros<;>(try simp only [LN,List.map_cons,List.map_nil])<;>rfl
 rintro s1 f2
 exact sgX
instance:bF 358 (type_of% @aDX):=⟨@aDX⟩
theorem aGU (p0 p1 r) (h:EG p0 p1=some r):Sc 390 [aX (M.aGh.en p0),aS p1] [(true,M.aGh.rs r)]:=by
 have i1:=D5 [.b 5 2 7050000 40 3] λm s=>∃v6:Int,∃aa:List M.aD,∃ae:Nat,(s.t 1=vS p1/\s.t 2=vP 2 1 0/\s.t 4=vP 4 1 0/\s.t 5=vP 5 1 0/\s.t 6=vI v6/\s.h 2=(1,oX 35 (M.aGh.en p0))/\s.h 4=(1,LF)/\s.h 5=(1,oB 35 [cS p0.Name,cI p0.aGg,.row 7050000 ae,.nil])/\s.h 7050000=(ae,oW 40 3 M.aD.en aa))/\yX p0 p1 m v6 aa=some r
 have e1:=@yX.eq_2
 have i2:=λ(aa:List M.aD) (ae:Nat)=>D5 [.b 5 3 7050100 282 2] λm s=>∃v7:Int,∃af:List M.aO,∃ah:Nat,(s.t 1=vS p1/\s.t 2=vP 2 1 0/\s.t 4=vP 4 1 0/\s.t 5=vP 5 1 0/\s.t 7=vI v7/\s.h 2=(1,oX 35 (M.aGh.en p0))/\s.h 4=(1,LF)/\s.h 5=(1,oB 35 [cS p0.Name,cI p0.aGg,.row 7050000 ae,.row 7050100 ah])/\s.h 7050000=(ae,oW 40 3 M.aD.en aa)/\s.h 7050100=(ah,oW 282 2 M.aO.en af))/\yN p0 p1 aa m v7 af=some r
 have e2:=@yN.eq_2
 unfold EG at h
 exact sgo 65 [.cell 4 35] Tryz.func390
theorem aDm (p0 p1 r) (h:dA p0 p1=some r):Sc 354 [aX (M.aM.en p0),aI p1] [(true,M.aM.rs r.1),rI r.2]:=by
 have i1:=λ(x1:M.aM)=>inv λm s=>∃v7:Int,(s.t 1=vI p1/\s.t 2=vP 2 1 0/\s.t 4=vP 4 1 0/\s.t 6=vP 6 1 0/\s.t 7=vI v7/\s.h 2=(1,oX 43 (M.aM.en p0))/\s.h 4=(1,oB 43 [cI 0,cI 0,.nil])/\s.h 6=(1,oB 43 [cI x1.aGp,cI x1.aHH,.row 300009 1])/\s.h 300009=(1,oW 211 7 M.bC.en x1.aG0))/\oC p0 p1 x1 m v7=some r
 have e1:=@oC.eq_2
 unfold dA at h
 exact sgo 40 [.cell 4 43,.tmp 5] Tryz.func354
instance:bF 354 (type_of% @aDm):=⟨@aDm⟩
end Go.Proofs.YtipmihbgjolaaaaGreat.gen
