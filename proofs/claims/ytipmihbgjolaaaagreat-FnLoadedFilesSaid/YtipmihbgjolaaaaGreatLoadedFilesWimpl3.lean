/-
  Helper text. No conditions.
-/
import Derived.Test.YtipmihbgjolaaaaGreatLoadedFilesTi
import Derived.Test.YtipmihbgjolaaaaGreatLoadedFilesWimpl0
import Derived.Test.YtipmihbgjolaaaaGreatLoadedFilesWimpl1
import Derived.Test.YtipmihbgjolaaaaGreatLoadedFilesWimpl2
set_option linter.unusedVariables false
set_option linter.unusedSimpArgs false
namespace Go.Proofs.YtipmihbgjolaaaaGreat.gen
open Go Go.Sh
set_option maxRecDepth 20000
set_option maxHeartbeats 4000000
theorem aAP (p0 r) (h:kT p0=some r):Sc 190 [aX (M.aE9.en p0)] [(true,M.aE9.rs r)]:=by unfold kT at h;exact sgo 8 [.cell 2 105] Tryz.func190
instance:bH 190 (type_of% @aAP):=⟨@aAP⟩
theorem aAr (p0 r) (h:wZ p0=some r):Sc 302 [aX (M.aFP.en p0)] [(true,M.aFP.rs r)]:=by unfold wZ at h;exact sgo 9 [.cell 2 284] Tryz.func302
instance:bH 302 (type_of% @aAr):=⟨@aAr⟩
theorem aBw (p0 r) (h:zQ p0=some r):Sc 224 [aX (M.aFS.en p0)] [(true,M.aFS.rs r)]:=by unfold zQ at h;exact sgo 8 [.cell 2 45] Tryz.func224
instance:bH 224 (type_of% @aBw):=⟨@aBw⟩
theorem c23 (p0 p1 r) (h:uI p0 p1=some r):Sc 23 [aX (M.World.en p0),aI p1] [rI r]:=by
 unfold uI at h
 simp only [EN]
 refine sgn 9 [.tmp 4] Tryz.func23 λbase wd => ?_
 refine sq (rn ?_)
 refine an (sq ?_)
 obtain ⟨x1,h2,h⟩:=bind_some h
 refine rn1 (c79 p0.aFF (λz0=>vA z0 p1) 80 [.ptr [.int .i64 p1]] (λz0 r hr=>c80 z0 p1 r hr) x1 h2) ?_
 refine an (rt ?_)
 cases h
 simp [Ret,TB,EN, *]
instance:bH 23 (type_of% @c23):=⟨@c23⟩
theorem aAx (p0 r) (h:sD p0=some r):Sc 305 [aX (M.aE9.en p0)] [rB r]:=by unfold sD at h;exact sgo 22 [.tmp 2] Tryz.func305
instance:bH 305 (type_of% @aAx):=⟨@aAx⟩
theorem aBe (p0 r) (h:uP p0=some r):Sc 250 [aX (M.Key.en p0)] [rB r]:=by unfold uP at h;exact sgo 39 [.tmp 2] Tryz.func250
instance:bH 250 (type_of% @aBe):=⟨@aBe⟩
theorem aA8 (p0 p1 r) (h:jC p0 p1=some r):Sc 307 [aL M.aN.en p0,aX (M.aN.en p1)] [rB r]:=by unfold jC at h;exact sgo 9 [.tmp 4] Tryz.func307
instance:bH 307 (type_of% @aA8):=⟨@aA8⟩
theorem aAt (p0 p1 r) (h:jE p0 p1=some r):Sc 323 [aL enB p0,aI p1] [rW 5 1 enB r]:=by
 have i1:=inv λm s=>∃v1:Int,∃r7:List Int,∃u7:Nat,(s.t 1=vI v1/\s.t 5=vR 100007 u7/\s.h 100007=(u7,oW 5 1 enB r7))/\fV m v1 r7=some r
 have e1:=@fV.eq_2
 unfold jE at h
 exact sgo 28 [.tmp 4] Tryz.func323
instance:bH 323 (type_of% @aAt):=⟨@aAt⟩
theorem c24 (p0 r) (h:nP p0=some r):Sc 24 [aS p0] [rI r]:=by unfold nP at h;exact sgo 6 [.tmp 2] Tryz.func24
instance:bH 24 (type_of% @c24):=⟨@c24⟩
theorem aCI (p0 p1 r) (h:rO p0 p1=some r):Sc 322 [aX (M.aM.en p0),aX (M.aM.en p1)] [rB r]:=by unfold rO at h;exact sgo 24 [.tmp 4] Tryz.func322
instance:bH 322 (type_of% @aCI):=⟨@aCI⟩
theorem aCt (p0 p1 p2 p3 r) (h:yG p0 p1 p2 p3=some r):Sc 105 [aX (M.aFB.en p0),aL M.bC.en p1,aI p2,aI p3] [(true,M.aFB.rs r.1),rI r.2]:=by
 unfold yG at h
 simp only [EN]
 refine sgn 58 [.cell 8 71,.tmp 9] Tryz.func105 λbase wd => ?_
 refine sq (rn ?_)
 refine an (sq ?_)
 obtain ⟨x1,h2,h⟩:=bind_some h
 refine rn1 (ZD _ _ h2) ?_
 refine an (sq ?_)
 obtain ⟨x3,h4,h⟩:=bind_some h
 refine rn1 (c79 p1 (λz0=>vD z0 p2) 182 [.ptr [.int .i64 p2]] (λz0 r hr=>aE0 z0 p2 r hr) x3 h4) ?_
 refine an (sq (sq (rn ?_)))
 refine an ?_
 rcases nX (decide (x3<0)) with b5 | b5
 ·replace h:=cN b5 h;refine ct (sq (rn ?_));refine an (rt ?_);cases h;simp [Ret,TB,EN, *]
 replace h:=cM b5 h
 refine cf (sk (an (sq (rn ?_))))
 refine an (sq (sq (rn ?_)))
 refine an (bk ?_)
 refine Gn (λm s=>∃ae:Int,∃aa:Int,∃af:List M.tB,∃u16:Nat,s.t 1=vL M.bC.en p1/\s.t 3=vI p3/\s.t 6=vP 6 1 0/\s.t 8=vP 8 1 0/\s.t 10=vP 10 1 0/\s.t 11=vI x3/\s.t 12=vI ae/\s.t 23=vL M.bC.en p1/\s.t 24=vI (List.length p1:Int)/\s.t 25=vI aa/\s.h 6=(1,oB 3 [cI p2])/\s.h 8=(1,oB 71 [.nil])/\s.h 10=(1,oB 71 [.row 100016 u16])/\s.h 100016=(u16,oW 157 3 M.tB.en af)/\dE p1 p2 p3 x3 m ae aa af=some r) fuel ?_ ?_
 ·refine ⟨0,0,x1.aFa,1,?_,?_,?_,?_,?_,?_,?_,?_,?_,?_,?_,?_,?_,?_,h⟩;all_goals simp +decide only [F,reduceIte,Nat.reduceAdd,qB,qC,EN, *,-h]
 rintro mL1 s6 ⟨ae,aa,af,u16,f7,f8,f9,f10,f11,f12,f13,f14,f15,f16,f17,f18,f19,f20,h⟩
 rcases mL1 with _ | mL1
 ·exact absurd h (by simp [dE])
 simp only [dE] at h
 refine sq (rn ?_)
 refine an (sq ?_)
 rcases Cf (decide (aa<(List.length p1:Int))) with ah | ah
 ·replace h:=cM ah h;refine cf (xt (DO (DB (Ie (an (sq (rn ?_)))))));refine an (rt ?_);cases h;simp [Ret,TB,EN, *]
 replace h:=cN ah h
 refine ct (sk (an (sq (bk (sq ?_)))))
 obtain ⟨ak,ao,h⟩:=bind_some h
 obtain ⟨ay,az,ba⟩:=tL ao
 refine rn ?_
 refine an (sq ?_)
 obtain ⟨bd,aq,h⟩:=bind_some h
 obtain ⟨bf,bg,bh⟩:=tL aq
 obtain ⟨ar,al,h⟩:=bind_some h
 rcases Cf ar with ai | ai
 ·replace h:=cM ai h;refine rd1 mixed (aBg _ _ _ al) ?_;refine an (cf (sk (ab (an (rn ?_)))));refine jB ⟨mL1,qb,ae,(IntKind.i64.wrap (aa+1)),af,u16,?_,?_,?_,?_,?_,?_,?_,?_,?_,?_,?_,?_,?_,?_,h⟩;all_goals simp +decide only [F,reduceIte,Nat.reduceAdd,qB,qC,EN, *,-h]
 replace h:=cN ai h
 obtain ⟨av,aw,h⟩:=bind_some h
 refine rd2 mixed (aBg _ _ _ al) (aEd _ _ _ aw) ?_
 refine an ?_
 rcases Cf (decide ((List.length av:Int)<5)) with aj | aj
 ·replace h:=cM aj h;refine cf (sk (ab (an (rn ?_))));refine jB ⟨mL1,qb,ae,(IntKind.i64.wrap (aa+1)),af,u16,?_,?_,?_,?_,?_,?_,?_,?_,?_,?_,?_,?_,?_,?_,h⟩;all_goals simp +decide only [F,reduceIte,Nat.reduceAdd,qB,qC,EN, *,-h]
 replace h:=cN aj h
 refine ct (sq ?_)
 obtain ⟨bj,ax,h⟩:=bind_some h
 refine rn1 ax ?_
 refine an ?_
 refine cu (λs=>s.t 1=vL M.bC.en p1/\s.t 3=vI p3/\s.t 6=vP 6 1 0/\s.t 8=vP 8 1 0/\s.t 10=vP 10 1 0/\s.t 11=vI x3/\s.t 12=vI ae/\s.t 23=vL M.bC.en p1/\s.t 24=vI (List.length p1:Int)/\s.t 25=vI aa/\s.h 6=(1,oB 3 [cI p2])/\s.h 8=(1,oB 71 [.nil])/\s.h 10=(1,oB 71 [.row 100016 (u16+1)])/\s.h 100016=((u16+1),oW 157 3 M.tB.en (af++[(⟨ak.Id,p2,p3⟩:M.tB)]))/\True) ?_
 rintro bl f41
 refine rn ?_
 refine ab (an (rn ?_))
 refine jB ⟨mL1,qb,(IntKind.i64.wrap (ae+1)),(IntKind.i64.wrap (aa+1)),(af++[(⟨ak.Id,p2,p3⟩:M.tB)]),(u16+1),?_,?_,?_,?_,?_,?_,?_,?_,?_,?_,?_,?_,?_,?_,h⟩
 all_goals simp +decide only [F,reduceIte,Nat.reduceAdd,qB,qC,EN, *,-h]
instance:bH 105 (type_of% @aCt):=⟨@aCt⟩
end Go.Proofs.YtipmihbgjolaaaaGreat.gen
