/-
  Helper text. No conditions.
-/
import Derived.Test.YtidhkhdnjonjfaaGreatReadNoteTi
import Derived.Test.YtidhkhdnjonjfaaGreatReadNoteWimpl0
import Derived.Test.YtidhkhdnjonjfaaGreatReadNoteWimpl2
import Derived.Test.YtidhkhdnjonjfaaGreatReadNoteWimpl3
import Derived.Test.YtidhkhdnjonjfaaGreatReadNoteWimpl4
set_option linter.unusedVariables false
set_option linter.unusedSimpArgs false
namespace Go.Proofs.YtidhkhdnjonjfaaGreat.gen
open Go Go.Sh
set_option maxRecDepth 20000
set_option maxHeartbeats 4000000
theorem c83 (p0 r) (h:pN p0=some r):Sc 83 [aX (M.fQ.en p0)] [(true,M.Database.ra r.1),rI r.2]:=by
 unfold pN at h
 simp only [EN]
 refine sgn 47 [.cell 2 32,.tmp 3] Tryz.func83 fun base wd => ?_
 refine sq (rn ?_)
 refine an (sq ?_)
 obtain ⟨x1,h2,h⟩:=bind_some h
 refine rn1 (aK0 _ _ h2) ?_
 refine an (sq ?_)
 obtain ⟨x3,h4,h⟩:=bind_some h
 refine rn1 (aM5 _ _ h4) ?_
 refine an (sq (sq (rn ?_)))
 refine an (bk (frb 4 2 300013 ?_))
 refine frb 4 3 400013 ?_
 refine aAC (fun m s=>∃v22:Int,∃w4_0:ByteArray,∃w4_1:Int,∃w4_2:List M.aC,∃w4_3:List M.aE,s.t 2=vP 2 1 0∧s.t 4=vP 4 1 0∧s.t 5=vR 100017 1∧s.t 20=vR 100017 1∧s.t 21=vI (List.length x3.1:Int)∧s.t 22=vI v22∧s.h 2=(1,aJh)∧s.h 4=(1,oB 32 [cS w4_0,cI w4_1,cL M.aC.en w4_2,cL M.aE.en w4_3])∧s.h 100017=(1,oW 22 1 (enL enB) x3.1)∧fJ x3 m v22 w4_0 w4_1 w4_2 w4_3=some r) fuel ?_ ?_
 ·refine ⟨0,x1.Name,x1.Version,x1.Stores,x1.Unique,?_,?_,?_,?_,?_,?_,?_,?_,?_,h⟩
  all_goals simp +decide only [F,reduceIte,Nat.reduceAdd,qB,qC,EN, *,-h]
 rintro mL1 s5 ⟨v22,w4_0,w4_1,w4_2,w4_3,f6,f7,f8,f9,f10,f11,f12,f13,f14,h⟩
 rcases mL1 with _ | mL1
 ·exact absurd h (by simp [fJ])
 simp only [fJ] at h
 refine sq (rn ?_)
 refine an (sq ?_)
 rcases aGH (decide (v22<(List.length x3.1:Int))) with b15 | b15
 ·replace h:=jV b15 h
  refine cf (xt (yD (yC (aA4 (an (sq (rn ?_)))))))
  refine an (rt ?_)
  cases h
  simp [Ret,TB,EN, *]
 replace h:=jW b15 h
 refine ct (sk (an (sq (bk (sq ?_)))))
 obtain ⟨x16,h17,h⟩:=bind_some h
 obtain ⟨q18,q19,q20⟩:=mZ h17
 refine rn ?_
 refine an (sq ?_)
 obtain ⟨x21,h22,h⟩:=bind_some h
 refine rn1 (aN0 _ _ h22) ?_
 refine an (sq (sq (rn ?_)))
 refine an ?_
 rcases wW (!x21.2) with b23 | b23
 ·replace h:=jW b23 h
  refine ct (sq (rn ?_))
  refine an (rt ?_)
  cases h
  simp [Ret,TB,EN, *]
 replace h:=jV b23 h
 refine cf (sk (an ?_))
 obtain ⟨x24,h25,h⟩:=bind_some h
 refine rn1 (aMU _ _ _ h25) ?_
 refine ab (an (rn ?_))
 refine xS ⟨mL1,by omega,(IntKind.i64.wrap (v22+1)),x24.1.Name,x24.1.Version,x24.1.Stores,x24.1.Unique,?_,?_,?_,?_,?_,?_,?_,?_,?_,h⟩
 all_goals simp +decide only [F,reduceIte,Nat.reduceAdd,qB,qC,EN, *,-h]
instance:bC 83 (type_of% @c83):=⟨@c83⟩
theorem aO9 (p0 r) (h:uR p0=some r):Sc 192 [aI p0] [(true,M.Key.rs r)]:=by
 unfold uR at h
 exact sgo 5 [.cell 2 225] Tryz.func192
instance:bC 192 (type_of% @aO9):=⟨@aO9⟩
theorem c84 (p0 p1 r) (h:wJ p0 p1=some r):Sc 84 [aX (M.Database.en p0),aI p1] [(true,M.aA.ra r.1),rB r.2.1,rB r.2.2]:=by
 unfold wJ at h
 exact sgo 35 [.cell 4 148,.tmp 5,.tmp 6] Tryz.func84
instance:bC 84 (type_of% @c84):=⟨@c84⟩
theorem c24 (p0 p1 p2 p3 r) (h:rN p0 p1 p2 p3=some r):Sc 24 [aX (M.World.en p0),aX (M.gX.en p1),aI p2,aS p3] [rI r]:=by
 unfold rN at h
 exact sgo 52 [.tmp 8] Tryz.func24
instance:bC 24 (type_of% @c24):=⟨@c24⟩
end Go.Proofs.YtidhkhdnjonjfaaGreat.gen
