/-
  Helper text. No conditions.
-/
import Derived.Test.YtipmihbgjolaaaaGreatCompleteCachesTi
set_option linter.unusedVariables false
set_option linter.unusedSimpArgs false
namespace Go.Proofs.YtipmihbgjolaaaaGreat.gen
open Go Go.Sh
open Go.IntKind (i64)
set_option maxRecDepth 20000
set_option maxHeartbeats 4000000
theorem c44 (p0 r) (h:Bn p0=some r):Sc 44 [aL enB p0] [(false,[.edit (.newb 182 [.sl (List.map enB r.b),.int .i64 r.i,.int .i64 r.h])])]:=by
 unfold Bn at h
 simp only [EN]
 refine sgN 32 [.tmp 2] Tryz.func44 λbase wd => ?_
 refine sq (rn ?_)
 refine an (sq (rn ?_))
 refine an (sq (sq (rn ?_)))
 refine an (bk ?_)
 refine IB (λm s=>∃v3:Int,∃v4:Int,s.t 0=vL enB p0/\s.t 3=vI v3/\s.t 4=vI v4/\nE p0 m v3 v4=some r) fuel ?_ ?_
 ·refine ⟨(i64.wrap (193017+(List.length p0:Int))),0,?_,?_,?_,h⟩;all_goals simp +decide only [F,reduceIte,Nat.reduceAdd,qB,qC,EN, *,-h]
 rintro mL1 s1 ⟨v3,v4,f2,f3,f4,h⟩
 rcases mL1 with _ | mL1
 ·exact absurd h (by simp [nE])
 simp only [nE] at h
 refine sq (sq ?_)
 rcases CH (decide (v4<(List.length p0:Int))) with b5 | b5
 ·replace h:=cR b5 h;refine rn ?_;refine an (cf (xt (E2 (EV (J0 (an (sq (rn ?_))))))));refine an (rt ?_);cases h;exact ⟨31,((s1.h 31).1+1),by simp +decide only [Dw,F,E,L,reduceIte,EN,TB, *],by simp +decide only [F,reduceIte,EN, *]<;>rfl⟩
 replace h:=cT b5 h
 refine rn ?_
 refine an ?_
 rcases CH (decide (v4<4000)) with b6 | b6
 ·replace h:=cR b6 h;refine cf (xt (E2 (EV (J0 (an (sq (rn ?_)))))));refine an (rt ?_);cases h;exact ⟨31,((s1.h 31).1+1),by simp +decide only [Dw,F,E,L,reduceIte,EN,TB, *],by simp +decide only [F,reduceIte,EN, *]<;>rfl⟩
 replace h:=cT b6 h
 refine ct (sk (an (sq (bk ?_))))
 obtain ⟨x7,h8,h⟩:=bind_some h
 obtain ⟨q9,aa,ae⟩:=Az h8
 refine rn ?_
 refine ab (an (rn ?_))
 refine lJ ⟨mL1,qb,(i64.wrap (BitVec.ofInt (IntKind.i64.bits) (i64.wrap ((i64.wrap ((i64.wrap (v3*137))+(i64.wrap x7)))+11))&&&BitVec.ofInt (IntKind.i64.bits) 1073741823).toNat),(i64.wrap (v4+1)),?_,?_,?_,h⟩
 all_goals simp +decide only [F,reduceIte,Nat.reduceAdd,qB,qC,EN, *,-h]
instance:bF 44 (type_of% @c44):=⟨@c44⟩
theorem aEa (p0 r) (h:sS p0=some r):Sc 145 [(false,[.ptr [.sl (List.map enB p0.b),.int .i64 p0.i,.int .i64 p0.h]])] [(false,[.edit (.lend 182 [.int .i64 r.1,.int .i64 r.2.1])]),rI r.2.2]:=by
 unfold sS at h
 simp only [EN]
 refine sgB 58 [.tmp 2] Tryz.func145 λbase wd B0 u0 hw0 => ?_
 refine eA (J:=λs=>s.t 0=vP 7059000 1 0/\s.h 7059000=(1,oB 182 [.old B0 (.sl (List.map enB p0.b)) (some u0),cI p0.i,cI p0.h])/\True) ?_ ?_
 ·and_intros<;>(try simp only [LN,List.map_cons,List.map_nil])<;>rfl
 rintro s1 f2
 exact sgX
instance:bF 145 (type_of% @aEa):=⟨@aEa⟩
theorem c65 (p0 p1 r) (h:aF p0 p1=some r):Sc 65 [(false,[.ptr [.sl (List.map enB p0.b),.int .i64 p0.i,.int .i64 p0.h]]),aI p1] [(false,[.edit (.lend 182 [.int .i64 r.1,.int .i64 r.2.1])]),rI r.2.2]:=by
 unfold aF at h
 simp only [EN]
 refine sgB 31 [.tmp 4] Tryz.func65 λbase wd B0 u0 hw0 => ?_
 refine eA (J:=λs=>s.t 0=vP 7059000 1 0/\s.t 1=vI p1/\s.h 7059000=(1,oB 182 [.old B0 (.sl (List.map enB p0.b)) (some u0),cI p0.i,cI p0.h])/\True) ?_ ?_
 ·and_intros<;>(try simp only [LN,List.map_cons,List.map_nil])<;>rfl
 rintro s1 f2
 exact sgX
instance:bF 65 (type_of% @c65):=⟨@c65⟩
theorem aB3 (p0 p1 r) (h:zM p0 p1=some r):Sc 201 [aI p0,aI p1] [rI r]:=by unfold zM at h;exact sgo 10 [.tmp 4] Tryz.func201
instance:bF 201 (type_of% @aB3):=⟨@aB3⟩
theorem aEe (p0 r) (h:rL p0=some r):Sc 202 [aL enB p0] [rW 3 1 enI r]:=by
 have i1:=inv λm s=>∃v4:Int,∃r7:List Int,∃u7:Nat,(s.t 0=vL enB p0/\s.t 3=vR 100007 u7/\s.t 4=vI v4/\s.h 100007=(u7,oW 3 1 enI r7))/\iH p0 m v4 r7=some r
 have e1:=@iH.eq_2
 unfold rL at h
 exact sgo 23 [.tmp 2] Tryz.func202
instance:bF 202 (type_of% @aEe):=⟨@aEe⟩
theorem aFc (p0 p1 r) (h:zK p0 p1=some r):Sc 285 [(false,[.ptr [.sl (List.map enB p0.b),.int .i64 p0.i,.int .i64 p0.h]]),aI p1] [(false,[.edit (.lend 182 [.int .i64 r.1,.int .i64 r.2.1])]),rW 5 1 enB r.2.2]:=by
 unfold zK at h
 simp only [EN]
 refine sgB 20 [.tmp 4] Tryz.func285 λbase wd B0 u0 hw0 => ?_
 refine eA (J:=λs=>s.t 0=vP 7059000 1 0/\s.t 1=vI p1/\s.h 7059000=(1,oB 182 [.old B0 (.sl (List.map enB p0.b)) (some u0),cI p0.i,cI p0.h])/\True) ?_ ?_
 ·and_intros<;>(try simp only [LN,List.map_cons,List.map_nil])<;>rfl
 rintro s1 f2
 have i1:=inv λm s=>∃v6:Int,∃r7:List Int,∃aa:Int,∃ae:Int,∃u7:Nat,(s.t 0=vP 7059000 1 0/\s.t 1=vI p1/\s.t 5=vR 100007 u7/\s.t 6=vI v6/\s.h 100007=(u7,oW 5 1 enB r7)/\s.h 7059000=(1,oB 182 [.old B0 (.sl (List.map enB p0.b)) (some u0),cI aa,cI ae]))/\pC p0 p1 m v6 r7 aa ae=some r
 have e1:=@pC.eq_2
 exact sgX
instance:bF 285 (type_of% @aFc):=⟨@aFc⟩
theorem aDf (p0 p1 r) (h:tE p0 p1=some r):Sc 113 [aL enB p0,aL enB p1] [rB r]:=by unfold tE at h;exact sgo 10 [.tmp 4] Tryz.func113
instance:bF 113 (type_of% @aDf):=⟨@aDf⟩
theorem c97 (p0 p1 r) (h:A8 p0 p1=some r):Sc 97 [aL M.bJ.en p0,aI p1] [rI r]:=by
 have i1:=inv λm s=>∃v5:Int,(s.t 0=vL M.bJ.en p0/\s.t 1=vI p1/\s.t 5=vI v5)/\oI p0 p1 m v5=some r
 have e1:=@oI.eq_2
 unfold A8 at h
 exact sgo 20 [.tmp 4] Tryz.func97
instance:bF 97 (type_of% @c97):=⟨@c97⟩
theorem c28 (p0 p1 r) (h:yR p0 p1=some r):Sc 28 [aX (M.World.en p0),aI p1] [rI r]:=by unfold yR at h;exact sgo 9 [.tmp 4] Tryz.func28
theorem aEF (p0 p1 r) (h:xI p0 p1=some r):Sc 369 [aX (M.aGm.en p0),aB p1] [rI r]:=by unfold xI at h;exact sgo 10 [.tmp 4] Tryz.func369
instance:bF 369 (type_of% @aEF):=⟨@aEF⟩
theorem aEm (p0 r) (h:xC p0=some r):Sc 315 [aX (M.aC.en p0)] [rI r]:=by
 have i1:=inv λm s=>∃v3:Int,∃v4:Int,(s.t 1=vP 1 1 0/\s.t 3=vI v3/\s.t 4=vI v4/\s.h 1=(1,oX 31 (M.aC.en p0)))/\eO p0 m v3 v4=some r
 have e1:=@eO.eq_2
 have i2:=λ(v4:Int) (k8:Int->Int->Option Int)=>inv λm s=>∃aa:Int,∃ae:Int,(s.t 1=vP 1 1 0/\s.t 3=vI aa/\s.t 4=vI v4/\s.t 5=vI ae/\s.h 1=(1,oX 31 (M.aC.en p0)))/\jO p0 v4 k8 m aa ae=some r
 have e2:=@jO.eq_2
 unfold xC at h
 exact sgo 43 [.tmp 2] Tryz.func315
instance:bF 315 (type_of% @aEm):=⟨@aEm⟩
theorem aDN (p0 r) (h:sH p0=some r):Sc 377 [aX (M.aGf.en p0)] [rI r]:=by unfold sH at h;exact sgo 11 [.tmp 2] Tryz.func377
instance:bF 377 (type_of% @aDN):=⟨@aDN⟩
theorem aEM (p0 p1 r) (h:uC p0 p1=some r):Sc 383 [aL M.bJ.en p0,aS p1] [rW 3 1 enI r]:=by
 have i1:=inv λm s=>∃v6:Int,∃r7:List Int,∃u7:Nat,(s.t 0=vL M.bJ.en p0/\s.t 1=vS p1/\s.t 5=vR 100007 u7/\s.t 6=vI v6/\s.h 100007=(u7,oW 3 1 enI r7))/\eK p0 p1 m v6 r7=some r
 have e1:=@eK.eq_2
 unfold uC at h
 exact sgo 30 [.tmp 4] Tryz.func383
instance:bF 383 (type_of% @aEM):=⟨@aEM⟩
theorem aF3 (p0 p1 r) (h:Cn p0 p1=some r):Sc 389 [aX (M.aGh.en p0),aX (M.lD.en p1)] [rI r]:=by
 have i1:=inv λm s=>∃v5:Int,(s.t 2=vP 2 1 0/\s.t 3=vP 3 1 0/\s.t 5=vI v5/\s.h 2=(1,oX 35 (M.aGh.en p0))/\s.h 3=(1,oX 380 (M.lD.en p1)))/\oF p0 p1 m v5=some r
 have e1:=@oF.eq_2
 unfold Cn at h
 exact sgo 34 [.tmp 4] Tryz.func389
theorem aCU (p0 r) (h:AD p0=some r):Sc 353 [aX (M.aM.en p0)] [(true,M.bC.rs r.1),rB r.2]:=by unfold AD at h;exact sgo 13 [.cell 2 211,.tmp 3] Tryz.func353
instance:bF 353 (type_of% @aCU):=⟨@aCU⟩
theorem aEv (p0 p1 r) (h:iB p0 p1=some r):Sc 355 [aI p0,aI p1] [rI r]:=by unfold iB at h;exact sgo 10 [.tmp 4] Tryz.func355
instance:bF 355 (type_of% @aEv):=⟨@aEv⟩
theorem aBo (p0 r) (h:iS p0=some r):Sc 356 [aI p0] [rI r]:=by
 have i1:=inv λm s=>∃v3:Int,∃v4:Int,(s.t 0=vI p0/\s.t 3=vI v3/\s.t 4=vI v4)/\oT p0 m v3 v4=some r
 have e1:=@oT.eq_2
 unfold iS at h
 exact sgo 17 [.tmp 2] Tryz.func356
instance:bF 356 (type_of% @aBo):=⟨@aBo⟩
end Go.Proofs.YtipmihbgjolaaaaGreat.gen
