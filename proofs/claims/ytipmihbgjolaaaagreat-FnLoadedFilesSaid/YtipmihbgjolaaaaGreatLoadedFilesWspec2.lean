/-
  Helper text. No conditions.
-/
import Derived.Test.YtipmihbgjolaaaaGreatLoadedFilesTi
set_option linter.unusedVariables false
set_option linter.unusedSimpArgs false
namespace Go.Proofs.YtipmihbgjolaaaaGreat.gen
open Go Go.Sh
open Go.IntKind (i64)
set_option maxRecDepth 20000
set_option maxHeartbeats 4000000
theorem c44 (p0 r) (h:BX p0=some r):Sc 44 [aL enB p0] [(false,[.edit (.newb 182 [.sl (List.map enB r.b),.int .i64 r.i,.int .i64 r.h])])]:=by
 unfold BX at h
 simp only [EN]
 refine sgN 32 [.tmp 2] Tryz.func44 λbase wd => ?_
 refine sq (rn ?_)
 refine an (sq (rn ?_))
 refine an (sq (sq (rn ?_)))
 refine an (bk ?_)
 refine Gn (λm s=>∃v3:Int,∃v4:Int,s.t 0=vL enB p0/\s.t 3=vI v3/\s.t 4=vI v4/\mO p0 m v3 v4=some r) fuel ?_ ?_
 ·refine ⟨(i64.wrap (193017+(List.length p0:Int))),0,?_,?_,?_,h⟩;all_goals simp +decide only [F,reduceIte,Nat.reduceAdd,qB,qC,EN, *,-h]
 rintro mL1 s1 ⟨v3,v4,f2,f3,f4,h⟩
 rcases mL1 with _ | mL1
 ·exact absurd h (by simp [mO])
 simp only [mO] at h
 refine sq (sq ?_)
 rcases Cf (decide (v4<(List.length p0:Int))) with b5 | b5
 ·replace h:=cM b5 h;refine rn ?_;refine an (cf (xt (DO (DB (Ie (an (sq (rn ?_))))))));refine an (rt ?_);cases h;exact ⟨31,((s1.h 31).1+1),by simp +decide only [Dv,F,E,L,reduceIte,EN,TB, *],by simp +decide only [F,reduceIte,EN, *]<;>rfl⟩
 replace h:=cN b5 h
 refine rn ?_
 refine an ?_
 rcases Cf (decide (v4<4000)) with b6 | b6
 ·replace h:=cM b6 h;refine cf (xt (DO (DB (Ie (an (sq (rn ?_)))))));refine an (rt ?_);cases h;exact ⟨31,((s1.h 31).1+1),by simp +decide only [Dv,F,E,L,reduceIte,EN,TB, *],by simp +decide only [F,reduceIte,EN, *]<;>rfl⟩
 replace h:=cN b6 h
 refine ct (sk (an (sq (bk ?_))))
 obtain ⟨x7,h8,h⟩:=bind_some h
 obtain ⟨q9,aa,ae⟩:=tL h8
 refine rn ?_
 refine ab (an (rn ?_))
 refine jB ⟨mL1,qb,(i64.wrap (BitVec.ofInt (IntKind.i64.bits) (i64.wrap ((i64.wrap ((i64.wrap (v3*137))+(i64.wrap x7)))+11))&&&BitVec.ofInt (IntKind.i64.bits) 1073741823).toNat),(i64.wrap (v4+1)),?_,?_,?_,h⟩
 all_goals simp +decide only [F,reduceIte,Nat.reduceAdd,qB,qC,EN, *,-h]
instance:bH 44 (type_of% @c44):=⟨@c44⟩
theorem aC3 (p0 r) (h:rY p0=some r):Sc 145 [(false,[.ptr [.sl (List.map enB p0.b),.int .i64 p0.i,.int .i64 p0.h]])] [(false,[.edit (.lend 182 [.int .i64 r.1,.int .i64 r.2.1])]),rI r.2.2]:=by
 unfold rY at h
 simp only [EN]
 refine sgB 58 [.tmp 2] Tryz.func145 λbase wd B0 u0 hw0 => ?_
 refine eY (J:=λs=>s.t 0=vP 7059000 1 0/\s.h 7059000=(1,oB 182 [.old B0 (.sl (List.map enB p0.b)) (some u0),cI p0.i,cI p0.h])/\True) ?_ ?_
 ·and_intros<;>(try simp only [LN,List.map_cons,List.map_nil])<;>rfl
 rintro s1 f2
 exact sgX
instance:bH 145 (type_of% @aC3):=⟨@aC3⟩
theorem c65 (p0 p1 r) (h:aF p0 p1=some r):Sc 65 [(false,[.ptr [.sl (List.map enB p0.b),.int .i64 p0.i,.int .i64 p0.h]]),aI p1] [(false,[.edit (.lend 182 [.int .i64 r.1,.int .i64 r.2.1])]),rI r.2.2]:=by
 unfold aF at h
 simp only [EN]
 refine sgB 31 [.tmp 4] Tryz.func65 λbase wd B0 u0 hw0 => ?_
 refine eY (J:=λs=>s.t 0=vP 7059000 1 0/\s.t 1=vI p1/\s.h 7059000=(1,oB 182 [.old B0 (.sl (List.map enB p0.b)) (some u0),cI p0.i,cI p0.h])/\True) ?_ ?_
 ·and_intros<;>(try simp only [LN,List.map_cons,List.map_nil])<;>rfl
 rintro s1 f2
 exact sgX
instance:bH 65 (type_of% @c65):=⟨@c65⟩
theorem c97 (p0 p1 r) (h:yO p0 p1=some r):Sc 97 [aL M.bC.en p0,aI p1] [rI r]:=by
 have i1:=inv λm s=>∃v5:Int,(s.t 0=vL M.bC.en p0/\s.t 1=vI p1/\s.t 5=vI v5)/\nO p0 p1 m v5=some r
 have e1:=@nO.eq_2
 unfold yO at h
 exact sgo 20 [.tmp 4] Tryz.func97
instance:bH 97 (type_of% @c97):=⟨@c97⟩
theorem c28 (p0 p1 r) (h:pW p0 p1=some r):Sc 28 [aX (M.World.en p0),aI p1] [rI r]:=by unfold pW at h;exact sgo 9 [.tmp 4] Tryz.func28
instance:bH 28 (type_of% @c28):=⟨@c28⟩
theorem aD7 (p0 p1 r) (h:kA p0 p1=some r):Sc 368 [aX (M.aD.en p0),aS p1] [rI r.1,rB r.2]:=by
 have i1:=inv λm s=>∃v6:Int,(s.t 1=vS p1/\s.t 2=vP 2 1 0/\s.t 6=vI v6/\s.h 2=(1,oX 254 (M.aD.en p0)))/\pG p0 p1 m v6=some r
 have e1:=@pG.eq_2
 unfold kA at h
 exact sgo 28 [.tmp 4,.tmp 5] Tryz.func368
instance:bH 368 (type_of% @aD7):=⟨@aD7⟩
theorem aCi (p0 p1 r) (h:wN p0 p1=some r):Sc 369 [aX (M.aE9.en p0),aB p1] [rI r]:=by unfold wN at h;exact sgo 10 [.tmp 4] Tryz.func369
instance:bH 369 (type_of% @aCi):=⟨@aCi⟩
theorem aDB (p0 r) (h:wG p0=some r):Sc 315 [aX (M.aE.en p0)] [rI r]:=by
 have i1:=inv λm s=>∃v3:Int,∃v4:Int,(s.t 1=vP 1 1 0/\s.t 3=vI v3/\s.t 4=vI v4/\s.h 1=(1,oX 31 (M.aE.en p0)))/\eH p0 m v3 v4=some r
 have e1:=@eH.eq_2
 have i2:=λ(v4:Int) (k8:Int->Int->Option Int)=>inv λm s=>∃aa:Int,∃ae:Int,(s.t 1=vP 1 1 0/\s.t 3=vI aa/\s.t 4=vI v4/\s.t 5=vI ae/\s.h 1=(1,oX 31 (M.aE.en p0)))/\jG p0 v4 k8 m aa ae=some r
 have e2:=@jG.eq_2
 unfold wG at h
 exact sgo 43 [.tmp 2] Tryz.func315
instance:bH 315 (type_of% @aDB):=⟨@aDB⟩
theorem c55 (p0 p1 p2 r) (h:yJ p0 p1 p2=some r):Sc 55 [aX (M.aJ.en p0),aS p1,aS p2] [rB r]:=by unfold yJ at h;exact sgo 23 [.tmp 6] Tryz.func55
instance:bH 55 (type_of% @c55):=⟨@c55⟩
theorem aD9 (p0 p1 r) (h:yA p0 p1=some r):Sc 333 [aX (M.aFB.en p0),aI p1] [(true,M.aFB.rs r)]:=by
 have i1:=DV [.b 5 0 7050000 157 3] λm s=>∃v6:Int,∃aa:List M.tB,∃ae:Nat,(s.t 1=vI p1/\s.t 2=vP 2 1 0/\s.t 4=vP 4 1 0/\s.t 5=vP 5 1 0/\s.t 6=vI v6/\s.h 2=(1,oX 71 (M.aFB.en p0))/\s.h 4=(1,oB 71 [.nil])/\s.h 5=(1,oB 71 [.row 7050000 ae])/\s.h 7050000=(ae,oW 157 3 M.tB.en aa))/\hY p0 p1 m v6 aa=some r
 have e1:=@hY.eq_2
 unfold yA at h
 exact sgo 34 [.cell 4 71] Tryz.func333
theorem aBL (p0 r) (h:xJ p0=some r):Sc 334 [aX (M.World.en p0)] [rI r]:=by unfold xJ at h;exact sgo 9 [.tmp 2] Tryz.func334
instance:bH 334 (type_of% @aBL):=⟨@aBL⟩
theorem aAd (p0 p1 p2 r) (h:nS p0 p1 p2=some r):Sc 335 [aX (M.aE4.en p0),aX (M.aFD.en p1),aB p2] [rI r]:=by unfold nS at h;exact sgo 15 [.tmp 6] Tryz.func335
instance:bH 335 (type_of% @aAd):=⟨@aAd⟩
theorem aDX (p0 p1 r) (h:mJ p0 p1=some r):Sc 348 [aX (M.aC.en p0),aX (M.Key.en p1)] [rI r]:=by
 have i1:=inv λm s=>∃v5:Int,(s.t 2=vP 2 1 0/\s.t 3=vP 3 1 0/\s.t 5=vI v5/\s.h 2=(1,oX 40 (M.aC.en p0))/\s.h 3=(1,oX 209 (M.Key.en p1)))/\mQ p0 p1 m v5=some r
 have e1:=@mQ.eq_2
 unfold mJ at h
 exact sgo 22 [.tmp 4] Tryz.func348
instance:bH 348 (type_of% @aDX):=⟨@aDX⟩
theorem aD0 (p0 p1 r) (h:yN p0 p1=some r):Sc 285 [(false,[.ptr [.sl (List.map enB p0.b),.int .i64 p0.i,.int .i64 p0.h]]),aI p1] [(false,[.edit (.lend 182 [.int .i64 r.1,.int .i64 r.2.1])]),rW 5 1 enB r.2.2]:=by
 unfold yN at h
 simp only [EN]
 refine sgB 20 [.tmp 4] Tryz.func285 λbase wd B0 u0 hw0 => ?_
 refine eY (J:=λs=>s.t 0=vP 7059000 1 0/\s.t 1=vI p1/\s.h 7059000=(1,oB 182 [.old B0 (.sl (List.map enB p0.b)) (some u0),cI p0.i,cI p0.h])/\True) ?_ ?_
 ·and_intros<;>(try simp only [LN,List.map_cons,List.map_nil])<;>rfl
 rintro s1 f2
 have i1:=inv λm s=>∃v6:Int,∃r7:List Int,∃aa:Int,∃ae:Int,∃u7:Nat,(s.t 0=vP 7059000 1 0/\s.t 1=vI p1/\s.t 5=vR 100007 u7/\s.t 6=vI v6/\s.h 100007=(u7,oW 5 1 enB r7)/\s.h 7059000=(1,oB 182 [.old B0 (.sl (List.map enB p0.b)) (some u0),cI aa,cI ae]))/\oG p0 p1 m v6 r7 aa ae=some r
 have e1:=@oG.eq_2
 exact sgX
instance:bH 285 (type_of% @aD0):=⟨@aD0⟩
theorem aCB (p0 p1 r) (h:vT p0 p1=some r):Sc 294 [aX (M.aFG.en p0),aI p1] [rI r]:=by
 have i1:=inv λm s=>∃v5:Int,(s.t 1=vI p1/\s.t 2=vP 2 1 0/\s.t 5=vI v5/\s.h 2=(1,oX 137 (M.aFG.en p0)))/\sH p0 p1 m v5=some r
 have e1:=@sH.eq_2
 unfold vT at h
 exact sgo 27 [.tmp 4] Tryz.func294
instance:bH 294 (type_of% @aCB):=⟨@aCB⟩
theorem aDK (p0 p1 r) (h:gV p0 p1=some r):Sc 355 [aI p0,aI p1] [rI r]:=by unfold gV at h;exact sgo 10 [.tmp 4] Tryz.func355
instance:bH 355 (type_of% @aDK):=⟨@aDK⟩
end Go.Proofs.YtipmihbgjolaaaaGreat.gen
