/-
  Helper text. No conditions.
-/
import Derived.Test.YtnhpbpnhmapeeaaGreatActivateWorkerTi
import Derived.Test.YtnhpbpnhmapeeaaGreatActivateWorkerWmark0
namespace Go.Proofs.YtnhpbpnhmapeeaaGreat.gen
open Go Go.Sh
open Go.IntKind (i64)
set_option linter.unusedVariables false
set_option linter.unusedSimpArgs false
set_option maxRecDepth 20000
set_option maxHeartbeats 4000000
theorem aQf (p0 p1 r) (h:nO p0 p1=some r):Sc 296 [aL enB p0,aI p1] [rI r]:=by
 have i1:=inv fun m s=>∃v1:Int,∃v5:Int,(s.t 0=vL enB p0∧s.t 1=vI v1∧s.t 5=vI v5)∧fF p0 m v1 v5=some r
 have e1:=@fF.eq_2
 unfold nO at h
 exact sgo 22 [.tmp 4] Tryz.func296
instance:bC 296 (type_of% @aQf):=⟨@aQf⟩
theorem aUO (p0 p1 r) (h:nY p0 p1=some r):Sc 369 [aL M.Cached.en p0,aI p1] [rI r]:=by
 have i1:=inv fun m s=>∃v1:Int,∃v5:Int,(s.t 0=vL M.Cached.en p0∧s.t 1=vI v1∧s.t 5=vI v5)∧dL p0 m v1 v5=some r
 have e1:=@dL.eq_2
 unfold nY at h
 exact sgo 85 [.tmp 4] Tryz.func369
instance:bC 369 (type_of% @aUO):=⟨@aUO⟩
theorem aQn (p0 p1 r) (h:qF p0 p1=some r):Sc 293 [aL M.Cache.en p0,aI p1] [rI r]:=by
 have i1:=inv fun m s=>∃v1:Int,∃v5:Int,(s.t 0=vL M.Cache.en p0∧s.t 1=vI v1∧s.t 5=vI v5)∧eI p0 m v1 v5=some r
 have e1:=@eI.eq_2
 unfold qF at h
 exact sgo 31 [.tmp 4] Tryz.func293
instance:bC 293 (type_of% @aQn):=⟨@aQn⟩
theorem aUt (p0 p1 r) (h:qO p0 p1=some r):Sc 297 [aL M.Field.en p0,aI p1] [rI r]:=by
 have i1:=inv fun m s=>∃v1:Int,∃v5:Int,(s.t 0=vL M.Field.en p0∧s.t 1=vI v1∧s.t 5=vI v5)∧eL p0 m v1 v5=some r
 have e1:=@eL.eq_2
 unfold qO at h
 exact sgo 32 [.tmp 4] Tryz.func297
instance:bC 297 (type_of% @aUt):=⟨@aUt⟩
theorem aQR (p0 p1 r) (h:lH p0 p1=some r):Sc 202 [aL M.Item.en p0,aI p1] [rI r]:=by
 have i1:=inv fun m s=>∃v1:Int,∃v5:Int,(s.t 0=vL M.Item.en p0∧s.t 1=vI v1∧s.t 5=vI v5)∧fH p0 m v1 v5=some r
 have e1:=@fH.eq_2
 unfold lH at h
 exact sgo 54 [.tmp 4] Tryz.func202
instance:bC 202 (type_of% @aQR):=⟨@aQR⟩
theorem aQt (p0 p1 r) (h:qA p0 p1=some r):Sc 294 [aL M.aH.en p0,aI p1] [rI r]:=by
 have i1:=inv fun m s=>∃v1:Int,∃v5:Int,(s.t 0=vL M.aH.en p0∧s.t 1=vI v1∧s.t 5=vI v5)∧eJ p0 m v1 v5=some r
 have e1:=@eJ.eq_2
 unfold qA at h
 exact sgo 41 [.tmp 4] Tryz.func294
instance:bC 294 (type_of% @aQt):=⟨@aQt⟩
theorem aRC (p0 p1 r) (h:lP p0 p1=some r):Sc 295 [aL M.aD.en p0,aI p1] [rI r]:=by
 have i1:=inv fun m s=>∃v1:Int,∃v5:Int,(s.t 0=vL M.aD.en p0∧s.t 1=vI v1∧s.t 5=vI v5)∧cH p0 m v1 v5=some r
 have e1:=@cH.eq_2
 unfold lP at h
 exact sgo 33 [.tmp 4] Tryz.func295
instance:bC 295 (type_of% @aRC):=⟨@aRC⟩
theorem aQL (p0 p1 r) (h:mI p0 p1=some r):Sc 204 [aL M.aY.en p0,aI p1] [rI r]:=by
 have i1:=inv fun m s=>∃v1:Int,∃v5:Int,(s.t 0=vL M.aY.en p0∧s.t 1=vI v1∧s.t 5=vI v5)∧eG p0 m v1 v5=some r
 have e1:=@eG.eq_2
 unfold mI at h
 exact sgo 81 [.tmp 4] Tryz.func204
instance:bC 204 (type_of% @aQL):=⟨@aQL⟩
theorem aTv (p0 p1 r) (h:oR p0 p1=some r):Sc 195 [aL M.aA.en p0,aI p1] [rI r]:=by
 unfold oR at h
 simp only [EN]
 refine sgn 271 [.tmp 4] Tryz.func195 fun base wd => ?_
 refine sq (rn ?_)
 refine an (sq (sq (rn ?_)))
 refine an (bk ?_)
 refine mR (fun m s=>∃v1:Int,∃v5:Int,s.t 0=vL M.aA.en p0∧s.t 1=vI v1∧s.t 5=vI v5∧cP p0 m v1 v5=some r) fuel ?_ ?_
 ·refine ⟨p1,0,?_,?_,?_,h⟩
  all_goals simp +decide only [F,reduceIte,Nat.reduceAdd,Bool.not_true,Bool.not_false,EN, *,-h]
 rintro mL1 s1 ⟨v1,v5,f2,f3,f4,h⟩
 rcases mL1 with _ | mL1
 ·exact absurd h (by simp [cP])
 simp only [cP] at h
 refine sq (sq (rn ?_))
 refine an ?_
 rcases aBM (decide (v5<(List.length p0:Int))) with b5 | b5
 ·replace h:=bG b5 h
  refine cf (xt (nI (oS (aAK (an (sq (rn ?_)))))))
  refine an (rt ?_)
  cases h
  simp [Ret,TB,EN, *]
 replace h:=bH b5 h
 refine ct (sk (an (sq (bk (sq (sq ?_))))))
 obtain ⟨x6,h7,h⟩:=bind_some h
 obtain ⟨q8,q9,q10⟩:=aT h7
 obtain ⟨x11,h12,h⟩:=bind_some h
 refine rd1 mixed (aDr _ _ h12) ?_
 refine an ?_
 rcases cF (!(x6.Site.toList==x11.toList)) with b13 | b13
 ·replace h:=bH b13 h
  refine ct (sq (rn ?_))
  refine an (rt ?_)
  cases h
  simp [Ret,TB,EN, *]
 replace h:=bG b13 h
 refine cf (sk (an (sq (rn ?_))))
 refine an (sq (sq ?_))
 obtain ⟨x14,h15,h⟩:=bind_some h
 refine rd1 mixed (aDr _ _ h15) ?_
 refine an ?_
 rcases cF (!(x6.Top.toList==x14.toList)) with b16 | b16
 ·replace h:=bH b16 h
  refine ct (sq (rn ?_))
  refine an (rt ?_)
  cases h
  simp [Ret,TB,EN, *]
 replace h:=bG b16 h
 refine cf (sk (an (sq (rn ?_))))
 refine an (sq (sq ?_))
 obtain ⟨x17,h18,h⟩:=bind_some h
 refine rd1 mixed (aDr _ _ h18) ?_
 refine an ?_
 rcases cF (!(x6.Registration.Site.toList==x17.toList)) with b19 | b19
 ·replace h:=bH b19 h
  refine ct (sq (rn ?_))
  refine an (rt ?_)
  cases h
  simp [Ret,TB,EN, *]
 replace h:=bG b19 h
 refine cf (sk (an (sq (rn ?_))))
 refine an (sq (sq (rn ?_)))
 refine an ?_
 rcases cF (x6.Registration.Installing != (i64.wrap ((i64.wrap ((i64.wrap (v1+1))+1))+1))) with b20 | b20
 ·replace h:=bH b20 h
  refine ct (sq (rn ?_))
  refine an (rt ?_)
  cases h
  simp [Ret,TB,EN, *]
 replace h:=bG b20 h
 refine cf (sk (an (sq (rn ?_))))
 refine an (sq (sq (rn ?_)))
 refine an ?_
 rcases cF (x6.Registration.Waiting != (i64.wrap ((i64.wrap ((i64.wrap ((i64.wrap (v1+1))+1))+1))+1))) with b21 | b21
 ·replace h:=bH b21 h
  refine ct (sq (rn ?_))
  refine an (rt ?_)
  cases h
  simp [Ret,TB,EN, *]
 replace h:=bG b21 h
 refine cf (sk (an (sq (rn ?_))))
 refine an (sq (sq (rn ?_)))
 refine an ?_
 rcases cF (x6.Registration.Active != (i64.wrap ((i64.wrap ((i64.wrap ((i64.wrap ((i64.wrap (v1+1))+1))+1))+1))+1))) with b22 | b22
 ·replace h:=bH b22 h
  refine ct (sq (rn ?_))
  refine an (rt ?_)
  cases h
  simp [Ret,TB,EN, *]
 replace h:=bG b22 h
 refine cf (sk (an (sq (rn ?_))))
 refine an (sq ?_)
 refine cu (fun s=>s.t 0=vL M.aA.en p0∧s.t 1=vI (i64.wrap ((i64.wrap ((i64.wrap ((i64.wrap ((i64.wrap ((i64.wrap (v1+1))+1))+1))+1))+1))+1))∧s.t 5=vI v5∧True) ?_
 rintro s23 ⟨f24,f25,f26,_⟩
 obtain ⟨x27,h28,h⟩:=bind_some h
 refine rn1 (aQn _ _ _ h28) ?_
 refine an (sq (sq (rn ?_)))
 refine an ?_
 rcases cF (decide (x27<0)) with b29 | b29
 ·replace h:=bH b29 h
  refine ct (sq (rn ?_))
  refine an (rt ?_)
  cases h
  simp [Ret,TB,EN, *]
 replace h:=bG b29 h
 refine cf (sk (an (sq (sq ?_))))
 obtain ⟨x30,h31,h⟩:=bind_some h
 refine rd1 mixed (aDr _ _ h31) ?_
 refine an ?_
 rcases cF (!(x6.bB.Base.Name.toList==x30.toList)) with b32 | b32
 ·replace h:=bH b32 h
  refine ct (sq (rn ?_))
  refine an (rt ?_)
  cases h
  simp [Ret,TB,EN, *]
 replace h:=bG b32 h
 refine cf (sk (an (sq (rn ?_))))
 refine an (sq (sq (rn ?_)))
 refine an ?_
 rcases cF (x6.bB.Base.Version != (i64.wrap (x27+1))) with b33 | b33
 ·replace h:=bH b33 h
  refine ct (sq (rn ?_))
  refine an (rt ?_)
  cases h
  simp [Ret,TB,EN, *]
 replace h:=bG b33 h
 refine cf (sk (an (sq (rn ?_))))
 refine an (sq ?_)
 obtain ⟨x34,h35,h⟩:=bind_some h
 refine rn1 (aQt _ _ _ h35) ?_
 refine an (sq (sq (rn ?_)))
 refine an ?_
 rcases cF (decide (x34<0)) with b36 | b36
 ·replace h:=bH b36 h
  refine ct (sq (rn ?_))
  refine an (rt ?_)
  cases h
  simp [Ret,TB,EN, *]
 replace h:=bG b36 h
 refine cf (sk (an (sq ?_)))
 obtain ⟨x37,h38,h⟩:=bind_some h
 refine rn1 (aRC _ _ _ h38) ?_
 refine an (sq (sq (rn ?_)))
 refine an ?_
 rcases cF (decide (x37<0)) with b39 | b39
 ·replace h:=bH b39 h
  refine ct (sq (rn ?_))
  refine an (rt ?_)
  cases h
  simp [Ret,TB,EN, *]
 replace h:=bG b39 h
 refine cf (sk (an (sq ?_)))
 obtain ⟨x40,h41,h⟩:=bind_some h
 refine rn1 (aQf _ _ _ h41) ?_
 refine an (sq (sq (rn ?_)))
 refine an ?_
 rcases cF (decide (x40<0)) with b42 | b42
 ·replace h:=bH b42 h
  refine ct (sq (rn ?_))
  refine an (rt ?_)
  cases h
  simp [Ret,TB,EN, *]
 replace h:=bG b42 h
 refine cf (sk (an (sq (sq ?_))))
 refine cu (fun s=>s.t 0=vL M.aA.en p0∧s.t 1=vI x40∧s.t 5=vI v5∧True) ?_
 rintro s43 ⟨f44,f45,f46,_⟩
 refine rn ?_
 refine an ?_
 rcases cF (x6.bB.Count != x40) with b47 | b47
 ·replace h:=bH b47 h
  refine ct (sq (rn ?_))
  refine an (rt ?_)
  cases h
  simp [Ret,TB,EN, *]
 replace h:=bG b47 h
 refine cf (sk (an (sq (rn ?_))))
 refine an (sq (sq ?_))
 obtain ⟨x48,h49,h⟩:=bind_some h
 refine rd1 mixed (aDr _ _ h49) ?_
 refine an ?_
 rcases cF (!(x6.aE.Base.Name.toList==x48.toList)) with b50 | b50
 ·replace h:=bH b50 h
  refine ct (sq (rn ?_))
  refine an (rt ?_)
  cases h
  simp [Ret,TB,EN, *]
 replace h:=bG b50 h
 refine cf (sk (an (sq (rn ?_))))
 refine an (sq ?_)
 obtain ⟨x51,h52,h⟩:=bind_some h
 refine rn1 (aQR _ _ _ h52) ?_
 refine an (sq (sq (rn ?_)))
 refine an ?_
 rcases cF (decide (x51<0)) with b53 | b53
 ·replace h:=bH b53 h
  refine ct (sq (rn ?_))
  refine an (rt ?_)
  cases h
  simp [Ret,TB,EN, *]
 replace h:=bG b53 h
 refine cf (sk (an (sq (sq (rn ?_)))))
 refine an ?_
 rcases cF (x6.aE.Base.Auto != x51) with b54 | b54
 ·replace h:=bH b54 h
  refine ct (sq (rn ?_))
  refine an (rt ?_)
  cases h
  simp [Ret,TB,EN, *]
 replace h:=bG b54 h
 refine cf (sk (an (sq (rn ?_))))
 refine an (sq (sq (rn ?_)))
 refine an ?_
 rcases cF (x6.aE.Seen != (i64.wrap (x51+1))) with b55 | b55
 ·replace h:=bH b55 h
  refine ct (sq (rn ?_))
  refine an (rt ?_)
  cases h
  simp [Ret,TB,EN, *]
 replace h:=bG b55 h
 refine cf (sk (an (sq (rn ?_))))
 refine an (sq (sq (rn ?_)))
 refine an ?_
 rcases cF (x6.aE.Sync.aV.Device != (i64.wrap ((i64.wrap (x51+1))+1))) with b56 | b56
 ·replace h:=bH b56 h
  refine ct (sq (rn ?_))
  refine an (rt ?_)
  cases h
  simp [Ret,TB,EN, *]
 replace h:=bG b56 h
 refine cf (sk (an (sq (rn ?_))))
 refine an (sq (sq ?_))
 refine cu (fun s=>s.t 0=vL M.aA.en p0∧s.t 1=vI (i64.wrap ((i64.wrap ((i64.wrap (x51+1))+1))+1))∧s.t 5=vI v5∧True) ?_
 rintro s57 ⟨f58,f59,f60,_⟩
 refine rn ?_
 refine an ?_
 rcases cF (x6.aE.Sync.aV.Next != (i64.wrap ((i64.wrap ((i64.wrap (x51+1))+1))+1))) with b61 | b61
 ·replace h:=bH b61 h
  refine ct (sq (rn ?_))
  refine an (rt ?_)
  cases h
  simp [Ret,TB,EN, *]
 replace h:=bG b61 h
 refine cf (sk (an (sq (rn ?_))))
 refine an (sq ?_)
 obtain ⟨x62,h63,h⟩:=bind_some h
 refine rn1 (aQL _ _ _ h63) ?_
 refine an (sq (sq (rn ?_)))
 refine an ?_
 rcases cF (decide (x62<0)) with b64 | b64
 ·replace h:=bH b64 h
  refine ct (sq (rn ?_))
  refine an (rt ?_)
  cases h
  simp [Ret,TB,EN, *]
 replace h:=bG b64 h
 refine cf (sk (an (sq (sq (rn ?_)))))
 refine an ?_
 rcases cF (x6.aE.Sync.Tries != x62) with b65 | b65
 ·replace h:=bH b65 h
  refine ct (sq (rn ?_))
  refine an (rt ?_)
  cases h
  simp [Ret,TB,EN, *]
 replace h:=bG b65 h
 refine cf (sk (an (sq (rn ?_))))
 refine an (sq (sq (rn ?_)))
 refine an ?_
 rcases cF (x6.aE.Sync.WaitUntil != (i64.wrap (x62+1))) with b66 | b66
 ·replace h:=bH b66 h
  refine ct (sq (rn ?_))
  refine an (rt ?_)
  cases h
  simp [Ret,TB,EN, *]
 replace h:=bG b66 h
 refine cf (sk (an (sq (rn ?_))))
 refine an (sq (sq (rn ?_)))
 refine an ?_
 rcases cF (x6.LastUsed != (i64.wrap ((i64.wrap (x62+1))+1))) with b67 | b67
 ·replace h:=bH b67 h
  refine ct (sq (rn ?_))
  refine an (rt ?_)
  cases h
  simp [Ret,TB,EN, *]
 replace h:=bG b67 h
 refine cf (sk (an (sq (rn ?_))))
 refine an (sq (sq (rn ?_)))
 refine an ?_
 rcases cF (!(x6.Persistent==((Int.tmod (i64.wrap ((i64.wrap ((i64.wrap (x62+1))+1))+1)) 3)==0))) with b68 | b68
 ·replace h:=bH b68 h
  refine ct (sq (rn ?_))
  refine an (rt ?_)
  cases h
  simp [Ret,TB,EN, *]
 replace h:=bG b68 h
 refine cf (sk (an (rn ?_)))
 refine ab (an (rn ?_))
 refine yH ⟨mL1,by omega,(i64.wrap ((i64.wrap ((i64.wrap ((i64.wrap (x62+1))+1))+1))+1)),(i64.wrap (v5+1)),?_,?_,?_,h⟩
 all_goals simp +decide only [F,reduceIte,Nat.reduceAdd,Bool.not_true,Bool.not_false,EN, *,-h]
instance:bC 195 (type_of% @aTv):=⟨@aTv⟩
theorem c82 (p0 p1 r) (h:vM p0 p1=some r):Sc 82 [aX (M.aC.en p0),aI p1] [rI r]:=by
 unfold vM at h
 exact sgo 12 [.tmp 4] Tryz.func82
instance:bC 82 (type_of% @c82):=⟨@c82⟩
theorem aQw (p0 p1 r) (h:pD p0 p1=some r):Sc 196 [aL M.aN.en p0,aI p1] [rI r]:=by
 have i1:=inv fun m s=>∃v1:Int,∃v5:Int,(s.t 0=vL M.aN.en p0∧s.t 1=vI v1∧s.t 5=vI v5)∧dK p0 m v1 v5=some r
 have e1:=@dK.eq_2
 unfold pD at h
 exact sgo 32 [.tmp 4] Tryz.func196
instance:bC 196 (type_of% @aQw):=⟨@aQw⟩
theorem aQs (p0 p1 r) (h:qZ p0 p1=some r):Sc 197 [aL M.Instr.en p0,aI p1] [rI r]:=by
 have i1:=inv fun m s=>∃v1:Int,∃v5:Int,(s.t 0=vL M.Instr.en p0∧s.t 1=vI v1∧s.t 5=vI v5)∧eF p0 m v1 v5=some r
 have e1:=@eF.eq_2
 unfold qZ at h
 exact sgo 50 [.tmp 4] Tryz.func197
instance:bC 197 (type_of% @aQs):=⟨@aQs⟩
theorem aQ4 (p0 p1 r) (h:wR p0 p1=some r):Sc 198 [aL enI p0,aI p1] [rI r]:=by
 have i1:=inv fun m s=>∃v1:Int,∃v5:Int,(s.t 0=vL enI p0∧s.t 1=vI v1∧s.t 5=vI v5)∧fX p0 m v1 v5=some r
 have e1:=@fX.eq_2
 unfold wR at h
 exact sgo 21 [.tmp 4] Tryz.func198
instance:bC 198 (type_of% @aQ4):=⟨@aQ4⟩
theorem c83 (p0 p1 r) (h:sU p0 p1=some r):Sc 83 [aL M.bI.en p0,aI p1] [rI r]:=by
 unfold sU at h
 simp only [EN]
 refine sgn 124 [.tmp 4] Tryz.func83 fun base wd => ?_
 refine sq (rn ?_)
 refine an (sq (sq (rn ?_)))
 refine an (bk ?_)
 refine mR (fun m s=>∃v1:Int,∃v5:Int,s.t 0=vL M.bI.en p0∧s.t 1=vI v1∧s.t 5=vI v5∧dW p0 m v1 v5=some r) fuel ?_ ?_
 ·refine ⟨p1,0,?_,?_,?_,h⟩
  all_goals simp +decide only [F,reduceIte,Nat.reduceAdd,Bool.not_true,Bool.not_false,EN, *,-h]
 rintro mL1 s1 ⟨v1,v5,f2,f3,f4,h⟩
 rcases mL1 with _ | mL1
 ·exact absurd h (by simp [dW])
 simp only [dW] at h
 refine sq (sq (rn ?_))
 refine an ?_
 rcases aBM (decide (v5<(List.length p0:Int))) with b5 | b5
 ·replace h:=bG b5 h
  refine cf (xt (nI (oS (aAK (an (sq (rn ?_)))))))
  refine an (rt ?_)
  cases h
  simp [Ret,TB,EN, *]
 replace h:=bH b5 h
 refine ct (sk (an (sq (bk (sq (sq ?_))))))
 obtain ⟨x6,h7,h⟩:=bind_some h
 obtain ⟨q8,q9,q10⟩:=aT h7
 refine rn ?_
 refine an ?_
 rcases cF (x6.Id != v1) with b11 | b11
 ·replace h:=bH b11 h
  refine ct (sq (rn ?_))
  refine an (rt ?_)
  cases h
  simp [Ret,TB,EN, *]
 replace h:=bG b11 h
 refine cf (sk (an (sq (rn ?_))))
 refine an (sq (sq ?_))
 obtain ⟨x12,h13,h⟩:=bind_some h
 refine rd1 mixed (aDr _ _ h13) ?_
 refine an ?_
 rcases cF (!(x6.Site.toList==x12.toList)) with b14 | b14
 ·replace h:=bH b14 h
  refine ct (sq (rn ?_))
  refine an (rt ?_)
  cases h
  simp [Ret,TB,EN, *]
 replace h:=bG b14 h
 refine cf (sk (an (sq (rn ?_))))
 refine an (sq (sq ?_))
 obtain ⟨x15,h16,h⟩:=bind_some h
 refine rd1 mixed (aDr _ _ h16) ?_
 refine an ?_
 rcases cF (!(x6.Top.toList==x15.toList)) with b17 | b17
 ·replace h:=bH b17 h
  refine ct (sq (rn ?_))
  refine an (rt ?_)
  cases h
  simp [Ret,TB,EN, *]
 replace h:=bG b17 h
 refine cf (sk (an (sq (rn ?_))))
 refine an (sq (sq (rn ?_)))
 refine an ?_
 rcases cF (x6.Version != (i64.wrap ((i64.wrap ((i64.wrap (v1+1))+1))+1))) with b18 | b18
 ·replace h:=bH b18 h
  refine ct (sq (rn ?_))
  refine an (rt ?_)
  cases h
  simp [Ret,TB,EN, *]
 replace h:=bG b18 h
 refine cf (sk (an (sq (rn ?_))))
 refine an (sq ?_)
 obtain ⟨x19,h20,h⟩:=bind_some h
 refine rn1 (aQw _ _ _ h20) ?_
 refine an (sq (sq (rn ?_)))
 refine an ?_
 rcases cF (decide (x19<0)) with b21 | b21
 ·replace h:=bH b21 h
  refine ct (sq (rn ?_))
  refine an (rt ?_)
  cases h
  simp [Ret,TB,EN, *]
 replace h:=bG b21 h
 refine cf (sk (an (sq ?_)))
 obtain ⟨x22,h23,h⟩:=bind_some h
 refine rn1 (aQs _ _ _ h23) ?_
 refine an (sq (sq (rn ?_)))
 refine an ?_
 rcases cF (decide (x22<0)) with b24 | b24
 ·replace h:=bH b24 h
  refine ct (sq (rn ?_))
  refine an (rt ?_)
  cases h
  simp [Ret,TB,EN, *]
 replace h:=bG b24 h
 refine cf (sk (an (sq (sq ?_))))
 refine cu (fun s=>s.t 0=vL M.bI.en p0∧s.t 1=vI x22∧s.t 5=vI v5∧True) ?_
 rintro s25 ⟨f26,f27,f28,_⟩
 refine rn ?_
 refine an ?_
 rcases cF (x6.Machine.Pc != x22) with b29 | b29
 ·replace h:=bH b29 h
  refine ct (sq (rn ?_))
  refine an (rt ?_)
  cases h
  simp [Ret,TB,EN, *]
 replace h:=bG b29 h
 refine cf (sk (an (sq (rn ?_))))
 refine an (sq ?_)
 obtain ⟨x30,h31,h⟩:=bind_some h
 refine rn1 (aQ4 _ _ _ h31) ?_
 refine an (sq (sq (rn ?_)))
 refine an ?_
 rcases cF (decide (x30<0)) with b32 | b32
 ·replace h:=bH b32 h
  refine ct (sq (rn ?_))
  refine an (rt ?_)
  cases h
  simp [Ret,TB,EN, *]
 replace h:=bG b32 h
 refine cf (sk (an (sq (sq (rn ?_)))))
 refine an ?_
 rcases cF (x6.Machine.Steps != x30) with b33 | b33
 ·replace h:=bH b33 h
  refine ct (sq (rn ?_))
  refine an (rt ?_)
  cases h
  simp [Ret,TB,EN, *]
 replace h:=bG b33 h
 refine cf (sk (an (sq (rn ?_))))
 refine an (sq (sq (rn ?_)))
 refine an ?_
 rcases cF (!(x6.Machine.Done==((Int.tmod (i64.wrap (x30+1)) 3)==0))) with b34 | b34
 ·replace h:=bH b34 h
  refine ct (sq (rn ?_))
  refine an (rt ?_)
  cases h
  simp [Ret,TB,EN, *]
 replace h:=bG b34 h
 refine cf (sk (an (sq (rn ?_))))
 refine an (sq (sq (rn ?_)))
 refine an ?_
 rcases cF (!(x6.Machine.Wait==((Int.tmod (i64.wrap ((i64.wrap (x30+1))+1)) 3)==0))) with b35 | b35
 ·replace h:=bH b35 h
  refine ct (sq (rn ?_))
  refine an (rt ?_)
  cases h
  simp [Ret,TB,EN, *]
 replace h:=bG b35 h
 refine cf (sk (an (rn ?_)))
 refine ab (an (rn ?_))
 refine yH ⟨mL1,by omega,(i64.wrap ((i64.wrap ((i64.wrap (x30+1))+1))+1)),(i64.wrap (v5+1)),?_,?_,?_,h⟩
 all_goals simp +decide only [F,reduceIte,Nat.reduceAdd,Bool.not_true,Bool.not_false,EN, *,-h]
instance:bC 83 (type_of% @c83):=⟨@c83⟩
theorem aTu (p0 p1 r) (h:tX p0 p1=some r):Sc 199 [aL M.cG.en p0,aI p1] [rI r]:=by
 have i1:=inv fun m s=>∃v1:Int,∃v5:Int,(s.t 0=vL M.cG.en p0∧s.t 1=vI v1∧s.t 5=vI v5)∧fG p0 m v1 v5=some r
 have e1:=@fG.eq_2
 unfold tX at h
 exact sgo 54 [.tmp 4] Tryz.func199
instance:bC 199 (type_of% @aTu):=⟨@aTu⟩
theorem c84 (p0 p1 r) (h:pX p0 p1=some r):Sc 84 [aX (M.aR.en p0),aI p1] [rI r]:=by
 unfold pX at h
 exact sgo 12 [.tmp 4] Tryz.func84
instance:bC 84 (type_of% @c84):=⟨@c84⟩
theorem aRz (p0 p1 r) (h:uE p0 p1=some r):Sc 200 [aL M.fK.en p0,aI p1] [rI r]:=by
 have i1:=inv fun m s=>∃v1:Int,∃v5:Int,(s.t 0=vL M.fK.en p0∧s.t 1=vI v1∧s.t 5=vI v5)∧fJ p0 m v1 v5=some r
 have e1:=@fJ.eq_2
 unfold uE at h
 exact sgo 40 [.tmp 4] Tryz.func200
instance:bC 200 (type_of% @aRz):=⟨@aRz⟩
theorem c85 (p0 p1 r) (h:vV p0 p1=some r):Sc 85 [aX (M.Channel.en p0),aI p1] [rI r]:=by
 unfold vV at h
 exact sgo 12 [.tmp 4] Tryz.func85
instance:bC 85 (type_of% @c85):=⟨@c85⟩
theorem aRj (p0 p1 r) (h:oH p0 p1=some r):Sc 201 [aL enS p0,aI p1] [rI r]:=by
 have i1:=inv fun m s=>∃v1:Int,∃v5:Int,(s.t 0=vL enS p0∧s.t 1=vI v1∧s.t 5=vI v5)∧dJ p0 m v1 v5=some r
 have e1:=@dJ.eq_2
 unfold oH at h
 exact sgo 22 [.tmp 4] Tryz.func201
instance:bC 201 (type_of% @aRj):=⟨@aRj⟩
theorem c86 (p0 p1 r) (h:uW p0 p1=some r):Sc 86 [aL M.Site.en p0,aI p1] [rI r]:=by
 have i1:=inv fun m s=>∃v1:Int,∃v5:Int,(s.t 0=vL M.Site.en p0∧s.t 1=vI v1∧s.t 5=vI v5)∧fB p0 m v1 v5=some r
 have e1:=@fB.eq_2
 unfold uW at h
 exact sgo 52 [.tmp 4] Tryz.func86
instance:bC 86 (type_of% @c86):=⟨@c86⟩
theorem aQq (p0 p1 r) (h:mX p0 p1=some r):Sc 203 [aL M.aJ.en p0,aI p1] [rI r]:=by
 have i1:=inv fun m s=>∃v1:Int,∃v5:Int,(s.t 0=vL M.aJ.en p0∧s.t 1=vI v1∧s.t 5=vI v5)∧cV p0 m v1 v5=some r
 have e1:=@cV.eq_2
 unfold mX at h
 exact sgo 31 [.tmp 4] Tryz.func203
instance:bC 203 (type_of% @aQq):=⟨@aQq⟩
theorem c87 (p0 p1 r) (h:pJ p0 p1=some r):Sc 87 [aL M.Server.en p0,aI p1] [rI r]:=by
 unfold pJ at h
 simp only [EN]
 refine sgn 62 [.tmp 4] Tryz.func87 fun base wd => ?_
 refine sq (rn ?_)
 refine an (sq (sq (rn ?_)))
 refine an (bk ?_)
 refine mR (fun m s=>∃v1:Int,∃v5:Int,s.t 0=vL M.Server.en p0∧s.t 1=vI v1∧s.t 5=vI v5∧cO p0 m v1 v5=some r) fuel ?_ ?_
 ·refine ⟨p1,0,?_,?_,?_,h⟩
  all_goals simp +decide only [F,reduceIte,Nat.reduceAdd,Bool.not_true,Bool.not_false,EN, *,-h]
 rintro mL1 s1 ⟨v1,v5,f2,f3,f4,h⟩
 rcases mL1 with _ | mL1
 ·exact absurd h (by simp [cO])
 simp only [cO] at h
 refine sq (sq (rn ?_))
 refine an ?_
 rcases aBM (decide (v5<(List.length p0:Int))) with b5 | b5
 ·replace h:=bG b5 h
  refine cf (xt (nI (oS (aAK (an (sq (rn ?_)))))))
  refine an (rt ?_)
  cases h
  simp [Ret,TB,EN, *]
 replace h:=bH b5 h
 refine ct (sk (an (sq (bk (sq (sq ?_))))))
 obtain ⟨x6,h7,h⟩:=bind_some h
 obtain ⟨q8,q9,q10⟩:=aT h7
 obtain ⟨x11,h12,h⟩:=bind_some h
 refine rd1 mixed (aDr _ _ h12) ?_
 refine an ?_
 rcases cF (!(x6.aH.Name.toList==x11.toList)) with b13 | b13
 ·replace h:=bH b13 h
  refine ct (sq (rn ?_))
  refine an (rt ?_)
  cases h
  simp [Ret,TB,EN, *]
 replace h:=bG b13 h
 refine cf (sk (an (sq (rn ?_))))
 refine an (sq ?_)
 obtain ⟨x14,h15,h⟩:=bind_some h
 refine rn1 (aQR _ _ _ h15) ?_
 refine an (sq (sq (rn ?_)))
 refine an ?_
 rcases cF (decide (x14<0)) with b16 | b16
 ·replace h:=bH b16 h
  refine ct (sq (rn ?_))
  refine an (rt ?_)
  cases h
  simp [Ret,TB,EN, *]
 replace h:=bG b16 h
 refine cf (sk (an (sq (sq (rn ?_)))))
 refine an ?_
 rcases cF (x6.aH.Auto != x14) with b17 | b17
 ·replace h:=bH b17 h
  refine ct (sq (rn ?_))
  refine an (rt ?_)
  cases h
  simp [Ret,TB,EN, *]
 replace h:=bG b17 h
 refine cf (sk (an (sq (rn ?_))))
 refine an (sq ?_)
 obtain ⟨x18,h19,h⟩:=bind_some h
 refine rn1 (aQq _ _ _ h19) ?_
 refine an (sq (sq (rn ?_)))
 refine an ?_
 rcases cF (decide (x18<0)) with b20 | b20
 ·replace h:=bH b20 h
  refine ct (sq (rn ?_))
  refine an (rt ?_)
  cases h
  simp [Ret,TB,EN, *]
 replace h:=bG b20 h
 refine cf (sk (an (sq ?_)))
 obtain ⟨x21,h22,h⟩:=bind_some h
 refine rn1 (aQL _ _ _ h22) ?_
 refine an (sq (rn ?_))
 refine an ?_
 rcases cF (decide (x21<0)) with b23 | b23
 ·replace h:=bH b23 h
  refine ct (sq (rn ?_))
  refine an (rt ?_)
  cases h
  simp [Ret,TB,EN, *]
 replace h:=bG b23 h
 refine cf (sk (ab (an (rn ?_))))
 refine yH ⟨mL1,by omega,x21,(i64.wrap (v5+1)),?_,?_,?_,h⟩
 all_goals simp +decide only [F,reduceIte,Nat.reduceAdd,Bool.not_true,Bool.not_false,EN, *,-h]
instance:bC 87 (type_of% @c87):=⟨@c87⟩
theorem c20 (p0 p1 r) (h:nW p0 p1=some r):Sc 20 [aX (M.World.en p0),aI p1] [rI r]:=by
 unfold nW at h
 exact sgo 42 [.tmp 4] Tryz.func20
instance:bC 20 (type_of% @c20):=⟨@c20⟩
end Go.Proofs.YtnhpbpnhmapeeaaGreat.gen
