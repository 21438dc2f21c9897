/-
  Helper text. No conditions.
-/
import Derived.Test.YtnhpbpnhmapeeaaGreatClosePageTi
import Derived.Test.YtnhpbpnhmapeeaaGreatClosePageWmark0
namespace Go.Proofs.YtnhpbpnhmapeeaaGreat.gen
open Go Go.Sh
open Go.IntKind (i64)
set_option linter.unusedVariables false
set_option linter.unusedSimpArgs false
set_option maxRecDepth 20000
set_option maxHeartbeats 4000000
theorem aPt (p0 p1 r) (h:nG p0 p1=some r):Sc 296 [aL enB p0,aI p1] [rI r]:=by
 have i1:=inv fun m s=>∃v1:Int,∃v5:Int,(s.t 0=vL enB p0∧s.t 1=vI v1∧s.t 5=vI v5)∧fD p0 m v1 v5=some r
 have e1:=@fD.eq_2
 unfold nG at h
 exact sgo 22 [.tmp 4] Tryz.func296
instance:bD 296 (type_of% @aPt):=⟨@aPt⟩
theorem aTO (p0 p1 r) (h:nQ p0 p1=some r):Sc 369 [aL M.Cached.en p0,aI p1] [rI r]:=by
 have i1:=inv fun m s=>∃v1:Int,∃v5:Int,(s.t 0=vL M.Cached.en p0∧s.t 1=vI v1∧s.t 5=vI v5)∧dM p0 m v1 v5=some r
 have e1:=@dM.eq_2
 unfold nQ at h
 exact sgo 85 [.tmp 4] Tryz.func369
instance:bD 369 (type_of% @aTO):=⟨@aTO⟩
theorem aP1 (p0 p1 r) (h:pU p0 p1=some r):Sc 293 [aL M.Cache.en p0,aI p1] [rI r]:=by
 have i1:=inv fun m s=>∃v1:Int,∃v5:Int,(s.t 0=vL M.Cache.en p0∧s.t 1=vI v1∧s.t 5=vI v5)∧eH p0 m v1 v5=some r
 have e1:=@eH.eq_2
 unfold pU at h
 exact sgo 31 [.tmp 4] Tryz.func293
instance:bD 293 (type_of% @aP1):=⟨@aP1⟩
theorem aTs (p0 p1 r) (h:qE p0 p1=some r):Sc 297 [aL M.Field.en p0,aI p1] [rI r]:=by
 have i1:=inv fun m s=>∃v1:Int,∃v5:Int,(s.t 0=vL M.Field.en p0∧s.t 1=vI v1∧s.t 5=vI v5)∧eL p0 m v1 v5=some r
 have e1:=@eL.eq_2
 unfold qE at h
 exact sgo 32 [.tmp 4] Tryz.func297
instance:bD 297 (type_of% @aTs):=⟨@aTs⟩
theorem aPe (p0 p1 r) (h:kZ p0 p1=some r):Sc 202 [aL M.Item.en p0,aI p1] [rI r]:=by
 have i1:=inv fun m s=>∃v1:Int,∃v5:Int,(s.t 0=vL M.Item.en p0∧s.t 1=vI v1∧s.t 5=vI v5)∧fF p0 m v1 v5=some r
 have e1:=@fF.eq_2
 unfold kZ at h
 exact sgo 54 [.tmp 4] Tryz.func202
instance:bD 202 (type_of% @aPe):=⟨@aPe⟩
theorem aP8 (p0 p1 r) (h:pP p0 p1=some r):Sc 294 [aL M.aH.en p0,aI p1] [rI r]:=by
 have i1:=inv fun m s=>∃v1:Int,∃v5:Int,(s.t 0=vL M.aH.en p0∧s.t 1=vI v1∧s.t 5=vI v5)∧eI p0 m v1 v5=some r
 have e1:=@eI.eq_2
 unfold pP at h
 exact sgo 41 [.tmp 4] Tryz.func294
instance:bD 294 (type_of% @aP8):=⟨@aP8⟩
theorem aQQ (p0 p1 r) (h:lF p0 p1=some r):Sc 295 [aL M.aA.en p0,aI p1] [rI r]:=by
 have i1:=inv fun m s=>∃v1:Int,∃v5:Int,(s.t 0=vL M.aA.en p0∧s.t 1=vI v1∧s.t 5=vI v5)∧cH p0 m v1 v5=some r
 have e1:=@cH.eq_2
 unfold lF at h
 exact sgo 33 [.tmp 4] Tryz.func295
instance:bD 295 (type_of% @aQQ):=⟨@aQQ⟩
theorem aPZ (p0 p1 r) (h:lZ p0 p1=some r):Sc 204 [aL M.aY.en p0,aI p1] [rI r]:=by
 have i1:=inv fun m s=>∃v1:Int,∃v5:Int,(s.t 0=vL M.aY.en p0∧s.t 1=vI v1∧s.t 5=vI v5)∧eF p0 m v1 v5=some r
 have e1:=@eF.eq_2
 unfold lZ at h
 exact sgo 81 [.tmp 4] Tryz.func204
instance:bD 204 (type_of% @aPZ):=⟨@aPZ⟩
theorem aSy (p0 p1 r) (h:oJ p0 p1=some r):Sc 195 [aL M.aF.en p0,aI p1] [rI r]:=by
 unfold oJ at h
 simp only [EN]
 refine sgn 271 [.tmp 4] Tryz.func195 fun base wd => ?_
 refine sq (rn ?_)
 refine an (sq (sq (rn ?_)))
 refine an (bk ?_)
 refine jY (fun m s=>∃v1:Int,∃v5:Int,s.t 0=vL M.aF.en p0∧s.t 1=vI v1∧s.t 5=vI v5∧cP p0 m v1 v5=some r) fuel ?_ ?_
 ·refine ⟨p1,0,?_,?_,?_,h⟩
  all_goals simp +decide only [F,reduceIte,Nat.reduceAdd,Bool.not_true,Bool.not_false,EN, *,-h]
 rintro mL1 s1 ⟨v1,v5,f2,f3,f4,h⟩
 rcases mL1 with _ | mL1
 ·exact absurd h (by simp [cP])
 simp only [cP] at h
 refine sq (sq (rn ?_))
 refine an ?_
 rcases aA5 (decide (v5<(List.length p0:Int))) with b5 | b5
 ·replace h:=bH b5 h
  refine cf (xt (lO (nE (yR (an (sq (rn ?_)))))))
  refine an (rt ?_)
  cases h
  simp [Ret,TB,EN, *]
 replace h:=bI b5 h
 refine ct (sk (an (sq (bk (sq (sq ?_))))))
 obtain ⟨x6,h7,h⟩:=bind_some h
 obtain ⟨q8,q9,q10⟩:=aR h7
 obtain ⟨x11,h12,h⟩:=bind_some h
 refine rd1 mixed (aDO _ _ h12) ?_
 refine an ?_
 rcases cU (!(x6.Site.toList==x11.toList)) with b13 | b13
 ·replace h:=bI b13 h
  refine ct (sq (rn ?_))
  refine an (rt ?_)
  cases h
  simp [Ret,TB,EN, *]
 replace h:=bH b13 h
 refine cf (sk (an (sq (rn ?_))))
 refine an (sq (sq ?_))
 obtain ⟨x14,h15,h⟩:=bind_some h
 refine rd1 mixed (aDO _ _ h15) ?_
 refine an ?_
 rcases cU (!(x6.Top.toList==x14.toList)) with b16 | b16
 ·replace h:=bI b16 h
  refine ct (sq (rn ?_))
  refine an (rt ?_)
  cases h
  simp [Ret,TB,EN, *]
 replace h:=bH b16 h
 refine cf (sk (an (sq (rn ?_))))
 refine an (sq (sq ?_))
 obtain ⟨x17,h18,h⟩:=bind_some h
 refine rd1 mixed (aDO _ _ h18) ?_
 refine an ?_
 rcases cU (!(x6.Registration.Site.toList==x17.toList)) with b19 | b19
 ·replace h:=bI b19 h
  refine ct (sq (rn ?_))
  refine an (rt ?_)
  cases h
  simp [Ret,TB,EN, *]
 replace h:=bH b19 h
 refine cf (sk (an (sq (rn ?_))))
 refine an (sq (sq (rn ?_)))
 refine an ?_
 rcases cU (x6.Registration.Installing != (i64.wrap ((i64.wrap ((i64.wrap (v1+1))+1))+1))) with b20 | b20
 ·replace h:=bI b20 h
  refine ct (sq (rn ?_))
  refine an (rt ?_)
  cases h
  simp [Ret,TB,EN, *]
 replace h:=bH b20 h
 refine cf (sk (an (sq (rn ?_))))
 refine an (sq (sq (rn ?_)))
 refine an ?_
 rcases cU (x6.Registration.Waiting != (i64.wrap ((i64.wrap ((i64.wrap ((i64.wrap (v1+1))+1))+1))+1))) with b21 | b21
 ·replace h:=bI b21 h
  refine ct (sq (rn ?_))
  refine an (rt ?_)
  cases h
  simp [Ret,TB,EN, *]
 replace h:=bH b21 h
 refine cf (sk (an (sq (rn ?_))))
 refine an (sq (sq (rn ?_)))
 refine an ?_
 rcases cU (x6.Registration.Active != (i64.wrap ((i64.wrap ((i64.wrap ((i64.wrap ((i64.wrap (v1+1))+1))+1))+1))+1))) with b22 | b22
 ·replace h:=bI b22 h
  refine ct (sq (rn ?_))
  refine an (rt ?_)
  cases h
  simp [Ret,TB,EN, *]
 replace h:=bH b22 h
 refine cf (sk (an (sq (rn ?_))))
 refine an (sq ?_)
 refine cu (fun s=>s.t 0=vL M.aF.en p0∧s.t 1=vI (i64.wrap ((i64.wrap ((i64.wrap ((i64.wrap ((i64.wrap ((i64.wrap (v1+1))+1))+1))+1))+1))+1))∧s.t 5=vI v5∧True) ?_
 rintro s23 ⟨f24,f25,f26,_⟩
 obtain ⟨x27,h28,h⟩:=bind_some h
 refine rn1 (aP1 _ _ _ h28) ?_
 refine an (sq (sq (rn ?_)))
 refine an ?_
 rcases cU (decide (x27<0)) with b29 | b29
 ·replace h:=bI b29 h
  refine ct (sq (rn ?_))
  refine an (rt ?_)
  cases h
  simp [Ret,TB,EN, *]
 replace h:=bH b29 h
 refine cf (sk (an (sq (sq ?_))))
 obtain ⟨x30,h31,h⟩:=bind_some h
 refine rd1 mixed (aDO _ _ h31) ?_
 refine an ?_
 rcases cU (!(x6.bE.Base.Name.toList==x30.toList)) with b32 | b32
 ·replace h:=bI b32 h
  refine ct (sq (rn ?_))
  refine an (rt ?_)
  cases h
  simp [Ret,TB,EN, *]
 replace h:=bH b32 h
 refine cf (sk (an (sq (rn ?_))))
 refine an (sq (sq (rn ?_)))
 refine an ?_
 rcases cU (x6.bE.Base.Version != (i64.wrap (x27+1))) with b33 | b33
 ·replace h:=bI b33 h
  refine ct (sq (rn ?_))
  refine an (rt ?_)
  cases h
  simp [Ret,TB,EN, *]
 replace h:=bH b33 h
 refine cf (sk (an (sq (rn ?_))))
 refine an (sq ?_)
 obtain ⟨x34,h35,h⟩:=bind_some h
 refine rn1 (aP8 _ _ _ h35) ?_
 refine an (sq (sq (rn ?_)))
 refine an ?_
 rcases cU (decide (x34<0)) with b36 | b36
 ·replace h:=bI b36 h
  refine ct (sq (rn ?_))
  refine an (rt ?_)
  cases h
  simp [Ret,TB,EN, *]
 replace h:=bH b36 h
 refine cf (sk (an (sq ?_)))
 obtain ⟨x37,h38,h⟩:=bind_some h
 refine rn1 (aQQ _ _ _ h38) ?_
 refine an (sq (sq (rn ?_)))
 refine an ?_
 rcases cU (decide (x37<0)) with b39 | b39
 ·replace h:=bI b39 h
  refine ct (sq (rn ?_))
  refine an (rt ?_)
  cases h
  simp [Ret,TB,EN, *]
 replace h:=bH b39 h
 refine cf (sk (an (sq ?_)))
 obtain ⟨x40,h41,h⟩:=bind_some h
 refine rn1 (aPt _ _ _ h41) ?_
 refine an (sq (sq (rn ?_)))
 refine an ?_
 rcases cU (decide (x40<0)) with b42 | b42
 ·replace h:=bI b42 h
  refine ct (sq (rn ?_))
  refine an (rt ?_)
  cases h
  simp [Ret,TB,EN, *]
 replace h:=bH b42 h
 refine cf (sk (an (sq (sq ?_))))
 refine cu (fun s=>s.t 0=vL M.aF.en p0∧s.t 1=vI x40∧s.t 5=vI v5∧True) ?_
 rintro s43 ⟨f44,f45,f46,_⟩
 refine rn ?_
 refine an ?_
 rcases cU (x6.bE.Count != x40) with b47 | b47
 ·replace h:=bI b47 h
  refine ct (sq (rn ?_))
  refine an (rt ?_)
  cases h
  simp [Ret,TB,EN, *]
 replace h:=bH b47 h
 refine cf (sk (an (sq (rn ?_))))
 refine an (sq (sq ?_))
 obtain ⟨x48,h49,h⟩:=bind_some h
 refine rd1 mixed (aDO _ _ h49) ?_
 refine an ?_
 rcases cU (!(x6.aD.Base.Name.toList==x48.toList)) with b50 | b50
 ·replace h:=bI b50 h
  refine ct (sq (rn ?_))
  refine an (rt ?_)
  cases h
  simp [Ret,TB,EN, *]
 replace h:=bH b50 h
 refine cf (sk (an (sq (rn ?_))))
 refine an (sq ?_)
 obtain ⟨x51,h52,h⟩:=bind_some h
 refine rn1 (aPe _ _ _ h52) ?_
 refine an (sq (sq (rn ?_)))
 refine an ?_
 rcases cU (decide (x51<0)) with b53 | b53
 ·replace h:=bI b53 h
  refine ct (sq (rn ?_))
  refine an (rt ?_)
  cases h
  simp [Ret,TB,EN, *]
 replace h:=bH b53 h
 refine cf (sk (an (sq (sq (rn ?_)))))
 refine an ?_
 rcases cU (x6.aD.Base.Auto != x51) with b54 | b54
 ·replace h:=bI b54 h
  refine ct (sq (rn ?_))
  refine an (rt ?_)
  cases h
  simp [Ret,TB,EN, *]
 replace h:=bH b54 h
 refine cf (sk (an (sq (rn ?_))))
 refine an (sq (sq (rn ?_)))
 refine an ?_
 rcases cU (x6.aD.Seen != (i64.wrap (x51+1))) with b55 | b55
 ·replace h:=bI b55 h
  refine ct (sq (rn ?_))
  refine an (rt ?_)
  cases h
  simp [Ret,TB,EN, *]
 replace h:=bH b55 h
 refine cf (sk (an (sq (rn ?_))))
 refine an (sq (sq (rn ?_)))
 refine an ?_
 rcases cU (x6.aD.Sync.aV.Device != (i64.wrap ((i64.wrap (x51+1))+1))) with b56 | b56
 ·replace h:=bI b56 h
  refine ct (sq (rn ?_))
  refine an (rt ?_)
  cases h
  simp [Ret,TB,EN, *]
 replace h:=bH b56 h
 refine cf (sk (an (sq (rn ?_))))
 refine an (sq (sq ?_))
 refine cu (fun s=>s.t 0=vL M.aF.en p0∧s.t 1=vI (i64.wrap ((i64.wrap ((i64.wrap (x51+1))+1))+1))∧s.t 5=vI v5∧True) ?_
 rintro s57 ⟨f58,f59,f60,_⟩
 refine rn ?_
 refine an ?_
 rcases cU (x6.aD.Sync.aV.Next != (i64.wrap ((i64.wrap ((i64.wrap (x51+1))+1))+1))) with b61 | b61
 ·replace h:=bI b61 h
  refine ct (sq (rn ?_))
  refine an (rt ?_)
  cases h
  simp [Ret,TB,EN, *]
 replace h:=bH b61 h
 refine cf (sk (an (sq (rn ?_))))
 refine an (sq ?_)
 obtain ⟨x62,h63,h⟩:=bind_some h
 refine rn1 (aPZ _ _ _ h63) ?_
 refine an (sq (sq (rn ?_)))
 refine an ?_
 rcases cU (decide (x62<0)) with b64 | b64
 ·replace h:=bI b64 h
  refine ct (sq (rn ?_))
  refine an (rt ?_)
  cases h
  simp [Ret,TB,EN, *]
 replace h:=bH b64 h
 refine cf (sk (an (sq (sq (rn ?_)))))
 refine an ?_
 rcases cU (x6.aD.Sync.Tries != x62) with b65 | b65
 ·replace h:=bI b65 h
  refine ct (sq (rn ?_))
  refine an (rt ?_)
  cases h
  simp [Ret,TB,EN, *]
 replace h:=bH b65 h
 refine cf (sk (an (sq (rn ?_))))
 refine an (sq (sq (rn ?_)))
 refine an ?_
 rcases cU (x6.aD.Sync.WaitUntil != (i64.wrap (x62+1))) with b66 | b66
 ·replace h:=bI b66 h
  refine ct (sq (rn ?_))
  refine an (rt ?_)
  cases h
  simp [Ret,TB,EN, *]
 replace h:=bH b66 h
 refine cf (sk (an (sq (rn ?_))))
 refine an (sq (sq (rn ?_)))
 refine an ?_
 rcases cU (x6.LastUsed != (i64.wrap ((i64.wrap (x62+1))+1))) with b67 | b67
 ·replace h:=bI b67 h
  refine ct (sq (rn ?_))
  refine an (rt ?_)
  cases h
  simp [Ret,TB,EN, *]
 replace h:=bH b67 h
 refine cf (sk (an (sq (rn ?_))))
 refine an (sq (sq (rn ?_)))
 refine an ?_
 rcases cU (!(x6.Persistent==((Int.tmod (i64.wrap ((i64.wrap ((i64.wrap (x62+1))+1))+1)) 3)==0))) with b68 | b68
 ·replace h:=bI b68 h
  refine ct (sq (rn ?_))
  refine an (rt ?_)
  cases h
  simp [Ret,TB,EN, *]
 replace h:=bH b68 h
 refine cf (sk (an (rn ?_)))
 refine ab (an (rn ?_))
 refine rQ ⟨mL1,by omega,(i64.wrap ((i64.wrap ((i64.wrap ((i64.wrap (x62+1))+1))+1))+1)),(i64.wrap (v5+1)),?_,?_,?_,h⟩
 all_goals simp +decide only [F,reduceIte,Nat.reduceAdd,Bool.not_true,Bool.not_false,EN, *,-h]
instance:bD 195 (type_of% @aSy):=⟨@aSy⟩
theorem c82 (p0 p1 r) (h:uU p0 p1=some r):Sc 82 [aX (M.aM.en p0),aI p1] [rI r]:=by
 unfold uU at h
 exact sgo 12 [.tmp 4] Tryz.func82
instance:bD 82 (type_of% @c82):=⟨@c82⟩
theorem aQB (p0 p1 r) (h:oQ p0 p1=some r):Sc 196 [aL M.aN.en p0,aI p1] [rI r]:=by
 have i1:=inv fun m s=>∃v1:Int,∃v5:Int,(s.t 0=vL M.aN.en p0∧s.t 1=vI v1∧s.t 5=vI v5)∧dL p0 m v1 v5=some r
 have e1:=@dL.eq_2
 unfold oQ at h
 exact sgo 32 [.tmp 4] Tryz.func196
instance:bD 196 (type_of% @aQB):=⟨@aQB⟩
theorem aP6 (p0 p1 r) (h:qO p0 p1=some r):Sc 197 [aL M.Instr.en p0,aI p1] [rI r]:=by
 have i1:=inv fun m s=>∃v1:Int,∃v5:Int,(s.t 0=vL M.Instr.en p0∧s.t 1=vI v1∧s.t 5=vI v5)∧eE p0 m v1 v5=some r
 have e1:=@eE.eq_2
 unfold qO at h
 exact sgo 50 [.tmp 4] Tryz.func197
instance:bD 197 (type_of% @aP6):=⟨@aP6⟩
theorem aQL (p0 p1 r) (h:wB p0 p1=some r):Sc 198 [aL enI p0,aI p1] [rI r]:=by
 have i1:=inv fun m s=>∃v1:Int,∃v5:Int,(s.t 0=vL enI p0∧s.t 1=vI v1∧s.t 5=vI v5)∧fV p0 m v1 v5=some r
 have e1:=@fV.eq_2
 unfold wB at h
 exact sgo 21 [.tmp 4] Tryz.func198
instance:bD 198 (type_of% @aQL):=⟨@aQL⟩
theorem c83 (p0 p1 r) (h:sE p0 p1=some r):Sc 83 [aL M.bG.en p0,aI p1] [rI r]:=by
 unfold sE at h
 simp only [EN]
 refine sgn 124 [.tmp 4] Tryz.func83 fun base wd => ?_
 refine sq (rn ?_)
 refine an (sq (sq (rn ?_)))
 refine an (bk ?_)
 refine jY (fun m s=>∃v1:Int,∃v5:Int,s.t 0=vL M.bG.en p0∧s.t 1=vI v1∧s.t 5=vI v5∧dW p0 m v1 v5=some r) fuel ?_ ?_
 ·refine ⟨p1,0,?_,?_,?_,h⟩
  all_goals simp +decide only [F,reduceIte,Nat.reduceAdd,Bool.not_true,Bool.not_false,EN, *,-h]
 rintro mL1 s1 ⟨v1,v5,f2,f3,f4,h⟩
 rcases mL1 with _ | mL1
 ·exact absurd h (by simp [dW])
 simp only [dW] at h
 refine sq (sq (rn ?_))
 refine an ?_
 rcases aA5 (decide (v5<(List.length p0:Int))) with b5 | b5
 ·replace h:=bH b5 h
  refine cf (xt (lO (nE (yR (an (sq (rn ?_)))))))
  refine an (rt ?_)
  cases h
  simp [Ret,TB,EN, *]
 replace h:=bI b5 h
 refine ct (sk (an (sq (bk (sq (sq ?_))))))
 obtain ⟨x6,h7,h⟩:=bind_some h
 obtain ⟨q8,q9,q10⟩:=aR h7
 refine rn ?_
 refine an ?_
 rcases cU (x6.Id != v1) with b11 | b11
 ·replace h:=bI b11 h
  refine ct (sq (rn ?_))
  refine an (rt ?_)
  cases h
  simp [Ret,TB,EN, *]
 replace h:=bH b11 h
 refine cf (sk (an (sq (rn ?_))))
 refine an (sq (sq ?_))
 obtain ⟨x12,h13,h⟩:=bind_some h
 refine rd1 mixed (aDO _ _ h13) ?_
 refine an ?_
 rcases cU (!(x6.Site.toList==x12.toList)) with b14 | b14
 ·replace h:=bI b14 h
  refine ct (sq (rn ?_))
  refine an (rt ?_)
  cases h
  simp [Ret,TB,EN, *]
 replace h:=bH b14 h
 refine cf (sk (an (sq (rn ?_))))
 refine an (sq (sq ?_))
 obtain ⟨x15,h16,h⟩:=bind_some h
 refine rd1 mixed (aDO _ _ h16) ?_
 refine an ?_
 rcases cU (!(x6.Top.toList==x15.toList)) with b17 | b17
 ·replace h:=bI b17 h
  refine ct (sq (rn ?_))
  refine an (rt ?_)
  cases h
  simp [Ret,TB,EN, *]
 replace h:=bH b17 h
 refine cf (sk (an (sq (rn ?_))))
 refine an (sq (sq (rn ?_)))
 refine an ?_
 rcases cU (x6.Version != (i64.wrap ((i64.wrap ((i64.wrap (v1+1))+1))+1))) with b18 | b18
 ·replace h:=bI b18 h
  refine ct (sq (rn ?_))
  refine an (rt ?_)
  cases h
  simp [Ret,TB,EN, *]
 replace h:=bH b18 h
 refine cf (sk (an (sq (rn ?_))))
 refine an (sq ?_)
 obtain ⟨x19,h20,h⟩:=bind_some h
 refine rn1 (aQB _ _ _ h20) ?_
 refine an (sq (sq (rn ?_)))
 refine an ?_
 rcases cU (decide (x19<0)) with b21 | b21
 ·replace h:=bI b21 h
  refine ct (sq (rn ?_))
  refine an (rt ?_)
  cases h
  simp [Ret,TB,EN, *]
 replace h:=bH b21 h
 refine cf (sk (an (sq ?_)))
 obtain ⟨x22,h23,h⟩:=bind_some h
 refine rn1 (aP6 _ _ _ h23) ?_
 refine an (sq (sq (rn ?_)))
 refine an ?_
 rcases cU (decide (x22<0)) with b24 | b24
 ·replace h:=bI b24 h
  refine ct (sq (rn ?_))
  refine an (rt ?_)
  cases h
  simp [Ret,TB,EN, *]
 replace h:=bH b24 h
 refine cf (sk (an (sq (sq ?_))))
 refine cu (fun s=>s.t 0=vL M.bG.en p0∧s.t 1=vI x22∧s.t 5=vI v5∧True) ?_
 rintro s25 ⟨f26,f27,f28,_⟩
 refine rn ?_
 refine an ?_
 rcases cU (x6.Machine.Pc != x22) with b29 | b29
 ·replace h:=bI b29 h
  refine ct (sq (rn ?_))
  refine an (rt ?_)
  cases h
  simp [Ret,TB,EN, *]
 replace h:=bH b29 h
 refine cf (sk (an (sq (rn ?_))))
 refine an (sq ?_)
 obtain ⟨x30,h31,h⟩:=bind_some h
 refine rn1 (aQL _ _ _ h31) ?_
 refine an (sq (sq (rn ?_)))
 refine an ?_
 rcases cU (decide (x30<0)) with b32 | b32
 ·replace h:=bI b32 h
  refine ct (sq (rn ?_))
  refine an (rt ?_)
  cases h
  simp [Ret,TB,EN, *]
 replace h:=bH b32 h
 refine cf (sk (an (sq (sq (rn ?_)))))
 refine an ?_
 rcases cU (x6.Machine.Steps != x30) with b33 | b33
 ·replace h:=bI b33 h
  refine ct (sq (rn ?_))
  refine an (rt ?_)
  cases h
  simp [Ret,TB,EN, *]
 replace h:=bH b33 h
 refine cf (sk (an (sq (rn ?_))))
 refine an (sq (sq (rn ?_)))
 refine an ?_
 rcases cU (!(x6.Machine.Done==((Int.tmod (i64.wrap (x30+1)) 3)==0))) with b34 | b34
 ·replace h:=bI b34 h
  refine ct (sq (rn ?_))
  refine an (rt ?_)
  cases h
  simp [Ret,TB,EN, *]
 replace h:=bH b34 h
 refine cf (sk (an (sq (rn ?_))))
 refine an (sq (sq (rn ?_)))
 refine an ?_
 rcases cU (!(x6.Machine.Wait==((Int.tmod (i64.wrap ((i64.wrap (x30+1))+1)) 3)==0))) with b35 | b35
 ·replace h:=bI b35 h
  refine ct (sq (rn ?_))
  refine an (rt ?_)
  cases h
  simp [Ret,TB,EN, *]
 replace h:=bH b35 h
 refine cf (sk (an (rn ?_)))
 refine ab (an (rn ?_))
 refine rQ ⟨mL1,by omega,(i64.wrap ((i64.wrap ((i64.wrap (x30+1))+1))+1)),(i64.wrap (v5+1)),?_,?_,?_,h⟩
 all_goals simp +decide only [F,reduceIte,Nat.reduceAdd,Bool.not_true,Bool.not_false,EN, *,-h]
instance:bD 83 (type_of% @c83):=⟨@c83⟩
theorem aSx (p0 p1 r) (h:tE p0 p1=some r):Sc 199 [aL M.bF.en p0,aI p1] [rI r]:=by
 have i1:=inv fun m s=>∃v1:Int,∃v5:Int,(s.t 0=vL M.bF.en p0∧s.t 1=vI v1∧s.t 5=vI v5)∧fE p0 m v1 v5=some r
 have e1:=@fE.eq_2
 unfold tE at h
 exact sgo 54 [.tmp 4] Tryz.func199
instance:bD 199 (type_of% @aSx):=⟨@aSx⟩
theorem c84 (p0 p1 r) (h:pM p0 p1=some r):Sc 84 [aX (M.aE.en p0),aI p1] [rI r]:=by
 unfold pM at h
 exact sgo 12 [.tmp 4] Tryz.func84
instance:bD 84 (type_of% @c84):=⟨@c84⟩
theorem aRA (p0 p1 r) (h:tP p0 p1=some r):Sc 200 [aL M.bU.en p0,aI p1] [rI r]:=by
 have i1:=inv fun m s=>∃v1:Int,∃v5:Int,(s.t 0=vL M.bU.en p0∧s.t 1=vI v1∧s.t 5=vI v5)∧fH p0 m v1 v5=some r
 have e1:=@fH.eq_2
 unfold tP at h
 exact sgo 40 [.tmp 4] Tryz.func200
instance:bD 200 (type_of% @aRA):=⟨@aRA⟩
theorem c85 (p0 p1 r) (h:uZ p0 p1=some r):Sc 85 [aX (M.Channel.en p0),aI p1] [rI r]:=by
 unfold uZ at h
 exact sgo 12 [.tmp 4] Tryz.func85
instance:bD 85 (type_of% @c85):=⟨@c85⟩
theorem aQu (p0 p1 r) (h:nZ p0 p1=some r):Sc 201 [aL enS p0,aI p1] [rI r]:=by
 have i1:=inv fun m s=>∃v1:Int,∃v5:Int,(s.t 0=vL enS p0∧s.t 1=vI v1∧s.t 5=vI v5)∧dK p0 m v1 v5=some r
 have e1:=@dK.eq_2
 unfold nZ at h
 exact sgo 22 [.tmp 4] Tryz.func201
instance:bD 201 (type_of% @aQu):=⟨@aQu⟩
theorem c86 (p0 p1 r) (h:uI p0 p1=some r):Sc 86 [aL M.Site.en p0,aI p1] [rI r]:=by
 have i1:=inv fun m s=>∃v1:Int,∃v5:Int,(s.t 0=vL M.Site.en p0∧s.t 1=vI v1∧s.t 5=vI v5)∧eZ p0 m v1 v5=some r
 have e1:=@eZ.eq_2
 unfold uI at h
 exact sgo 52 [.tmp 4] Tryz.func86
instance:bD 86 (type_of% @c86):=⟨@c86⟩
theorem aP4 (p0 p1 r) (h:mR p0 p1=some r):Sc 203 [aL M.aJ.en p0,aI p1] [rI r]:=by
 have i1:=inv fun m s=>∃v1:Int,∃v5:Int,(s.t 0=vL M.aJ.en p0∧s.t 1=vI v1∧s.t 5=vI v5)∧cV p0 m v1 v5=some r
 have e1:=@cV.eq_2
 unfold mR at h
 exact sgo 31 [.tmp 4] Tryz.func203
instance:bD 203 (type_of% @aP4):=⟨@aP4⟩
theorem c87 (p0 p1 r) (h:oZ p0 p1=some r):Sc 87 [aL M.Server.en p0,aI p1] [rI r]:=by
 unfold oZ at h
 simp only [EN]
 refine sgn 62 [.tmp 4] Tryz.func87 fun base wd => ?_
 refine sq (rn ?_)
 refine an (sq (sq (rn ?_)))
 refine an (bk ?_)
 refine jY (fun m s=>∃v1:Int,∃v5:Int,s.t 0=vL M.Server.en p0∧s.t 1=vI v1∧s.t 5=vI v5∧cO p0 m v1 v5=some r) fuel ?_ ?_
 ·refine ⟨p1,0,?_,?_,?_,h⟩
  all_goals simp +decide only [F,reduceIte,Nat.reduceAdd,Bool.not_true,Bool.not_false,EN, *,-h]
 rintro mL1 s1 ⟨v1,v5,f2,f3,f4,h⟩
 rcases mL1 with _ | mL1
 ·exact absurd h (by simp [cO])
 simp only [cO] at h
 refine sq (sq (rn ?_))
 refine an ?_
 rcases aA5 (decide (v5<(List.length p0:Int))) with b5 | b5
 ·replace h:=bH b5 h
  refine cf (xt (lO (nE (yR (an (sq (rn ?_)))))))
  refine an (rt ?_)
  cases h
  simp [Ret,TB,EN, *]
 replace h:=bI b5 h
 refine ct (sk (an (sq (bk (sq (sq ?_))))))
 obtain ⟨x6,h7,h⟩:=bind_some h
 obtain ⟨q8,q9,q10⟩:=aR h7
 obtain ⟨x11,h12,h⟩:=bind_some h
 refine rd1 mixed (aDO _ _ h12) ?_
 refine an ?_
 rcases cU (!(x6.aH.Name.toList==x11.toList)) with b13 | b13
 ·replace h:=bI b13 h
  refine ct (sq (rn ?_))
  refine an (rt ?_)
  cases h
  simp [Ret,TB,EN, *]
 replace h:=bH b13 h
 refine cf (sk (an (sq (rn ?_))))
 refine an (sq ?_)
 obtain ⟨x14,h15,h⟩:=bind_some h
 refine rn1 (aPe _ _ _ h15) ?_
 refine an (sq (sq (rn ?_)))
 refine an ?_
 rcases cU (decide (x14<0)) with b16 | b16
 ·replace h:=bI b16 h
  refine ct (sq (rn ?_))
  refine an (rt ?_)
  cases h
  simp [Ret,TB,EN, *]
 replace h:=bH b16 h
 refine cf (sk (an (sq (sq (rn ?_)))))
 refine an ?_
 rcases cU (x6.aH.Auto != x14) with b17 | b17
 ·replace h:=bI b17 h
  refine ct (sq (rn ?_))
  refine an (rt ?_)
  cases h
  simp [Ret,TB,EN, *]
 replace h:=bH b17 h
 refine cf (sk (an (sq (rn ?_))))
 refine an (sq ?_)
 obtain ⟨x18,h19,h⟩:=bind_some h
 refine rn1 (aP4 _ _ _ h19) ?_
 refine an (sq (sq (rn ?_)))
 refine an ?_
 rcases cU (decide (x18<0)) with b20 | b20
 ·replace h:=bI b20 h
  refine ct (sq (rn ?_))
  refine an (rt ?_)
  cases h
  simp [Ret,TB,EN, *]
 replace h:=bH b20 h
 refine cf (sk (an (sq ?_)))
 obtain ⟨x21,h22,h⟩:=bind_some h
 refine rn1 (aPZ _ _ _ h22) ?_
 refine an (sq (rn ?_))
 refine an ?_
 rcases cU (decide (x21<0)) with b23 | b23
 ·replace h:=bI b23 h
  refine ct (sq (rn ?_))
  refine an (rt ?_)
  cases h
  simp [Ret,TB,EN, *]
 replace h:=bH b23 h
 refine cf (sk (ab (an (rn ?_))))
 refine rQ ⟨mL1,by omega,x21,(i64.wrap (v5+1)),?_,?_,?_,h⟩
 all_goals simp +decide only [F,reduceIte,Nat.reduceAdd,Bool.not_true,Bool.not_false,EN, *,-h]
instance:bD 87 (type_of% @c87):=⟨@c87⟩
theorem c20 (p0 p1 r) (h:nO p0 p1=some r):Sc 20 [aX (M.World.en p0),aI p1] [rI r]:=by
 unfold nO at h
 exact sgo 42 [.tmp 4] Tryz.func20
instance:bD 20 (type_of% @c20):=⟨@c20⟩
end Go.Proofs.YtnhpbpnhmapeeaaGreat.gen
