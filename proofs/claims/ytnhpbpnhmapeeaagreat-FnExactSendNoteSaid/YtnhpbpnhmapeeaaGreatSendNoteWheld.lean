/-
  Helper text. No conditions.
-/
import Derived.Test.YtnhpbpnhmapeeaaGreatSendNoteTi
import Derived.Test.YtnhpbpnhmapeeaaGreatSendNoteWmark0
namespace Go.Proofs.YtnhpbpnhmapeeaaGreat.gen
open Go Go.Sh
open Go.IntKind (i64)
set_option linter.unusedVariables false
set_option linter.unusedSimpArgs false
set_option maxRecDepth 20000
set_option maxHeartbeats 4000000
theorem aQa (p0 p1 r) (h:nV p0 p1=some r):Sc 296 [aL enB p0,aI p1] [rI r]:=by
 have i1:=inv fun m s=>∃v1:Int,∃v5:Int,(s.t 0=vL enB p0∧s.t 1=vI v1∧s.t 5=vI v5)∧eY p0 m v1 v5=some r
 have e1:=@eY.eq_2
 unfold nV at h
 exact sgo 22 [.tmp 4] Tryz.func296
instance:bG 296 (type_of% @aQa):=⟨@aQa⟩
theorem aTv (p0 p1 r) (h:oG p0 p1=some r):Sc 369 [aL M.Cached.en p0,aI p1] [rI r]:=by
 have i1:=inv fun m s=>∃v1:Int,∃v5:Int,(s.t 0=vL M.Cached.en p0∧s.t 1=vI v1∧s.t 5=vI v5)∧dI p0 m v1 v5=some r
 have e1:=@dI.eq_2
 unfold oG at h
 exact sgo 85 [.tmp 4] Tryz.func369
instance:bG 369 (type_of% @aTv):=⟨@aTv⟩
theorem aQg (p0 p1 r) (h:qC p0 p1=some r):Sc 293 [aL M.Cache.en p0,aI p1] [rI r]:=by
 have i1:=inv fun m s=>∃v1:Int,∃v5:Int,(s.t 0=vL M.Cache.en p0∧s.t 1=vI v1∧s.t 5=vI v5)∧eB p0 m v1 v5=some r
 have e1:=@eB.eq_2
 unfold qC at h
 exact sgo 31 [.tmp 4] Tryz.func293
instance:bG 293 (type_of% @aQg):=⟨@aQg⟩
theorem aUN (p0 p1 r) (h:qL p0 p1=some r):Sc 297 [aL M.Field.en p0,aI p1] [rI r]:=by
 have i1:=inv fun m s=>∃v1:Int,∃v5:Int,(s.t 0=vL M.Field.en p0∧s.t 1=vI v1∧s.t 5=vI v5)∧eE p0 m v1 v5=some r
 have e1:=@eE.eq_2
 unfold qL at h
 exact sgo 32 [.tmp 4] Tryz.func297
instance:bG 297 (type_of% @aUN):=⟨@aUN⟩
theorem aQI (p0 p1 r) (h:kZ p0 p1=some r):Sc 202 [aL M.Item.en p0,aI p1] [rI r]:=by
 have i1:=inv fun m s=>∃v1:Int,∃v5:Int,(s.t 0=vL M.Item.en p0∧s.t 1=vI v1∧s.t 5=vI v5)∧fA p0 m v1 v5=some r
 have e1:=@fA.eq_2
 unfold kZ at h
 exact sgo 54 [.tmp 4] Tryz.func202
instance:bG 202 (type_of% @aQI):=⟨@aQI⟩
theorem aQn (p0 p1 r) (h:pU p0 p1=some r):Sc 294 [aL M.aE.en p0,aI p1] [rI r]:=by
 have i1:=inv fun m s=>∃v1:Int,∃v5:Int,(s.t 0=vL M.aE.en p0∧s.t 1=vI v1∧s.t 5=vI v5)∧eC p0 m v1 v5=some r
 have e1:=@eC.eq_2
 unfold pU at h
 exact sgo 41 [.tmp 4] Tryz.func294
instance:bG 294 (type_of% @aQn):=⟨@aQn⟩
theorem aQ7 (p0 p1 r) (h:lG p0 p1=some r):Sc 295 [aL M.aD.en p0,aI p1] [rI r]:=by
 have i1:=inv fun m s=>∃v1:Int,∃v5:Int,(s.t 0=vL M.aD.en p0∧s.t 1=vI v1∧s.t 5=vI v5)∧cG p0 m v1 v5=some r
 have e1:=@cG.eq_2
 unfold lG at h
 exact sgo 33 [.tmp 4] Tryz.func295
instance:bG 295 (type_of% @aQ7):=⟨@aQ7⟩
theorem aQD (p0 p1 r) (h:mF p0 p1=some r):Sc 204 [aL M.aV.en p0,aI p1] [rI r]:=by
 have i1:=inv fun m s=>∃v1:Int,∃v5:Int,(s.t 0=vL M.aV.en p0∧s.t 1=vI v1∧s.t 5=vI v5)∧dZ p0 m v1 v5=some r
 have e1:=@dZ.eq_2
 unfold mF at h
 exact sgo 81 [.tmp 4] Tryz.func204
instance:bG 204 (type_of% @aQD):=⟨@aQD⟩
theorem aTY (p0 p1 r) (h:oU p0 p1=some r):Sc 195 [aL M.aA.en p0,aI p1] [rI r]:=by
 unfold oU at h
 simp only [EN]
 refine sgn 271 [.tmp 4] Tryz.func195 fun base wd => ?_
 refine sq (rn ?_)
 refine an (sq (sq (rn ?_)))
 refine an (bk ?_)
 refine kX (fun m s=>∃v1:Int,∃v5:Int,s.t 0=vL M.aA.en p0∧s.t 1=vI v1∧s.t 5=vI v5∧cP p0 m v1 v5=some r) fuel ?_ ?_
 ·refine ⟨p1,0,?_,?_,?_,h⟩
  all_goals simp +decide only [F,reduceIte,Nat.reduceAdd,Bool.not_true,Bool.not_false,EN, *,-h]
 rintro mL1 s1 ⟨v1,v5,f2,f3,f4,h⟩
 rcases mL1 with _ | mL1
 ·exact absurd h (by simp [cP])
 simp only [cP] at h
 refine sq (sq (rn ?_))
 refine an ?_
 rcases rQ (decide (v5<(List.length p0:Int))) with b5 | b5
 ·replace h:=bA b5 h
  refine cf (xt (jD (jY (uX (an (sq (rn ?_)))))))
  refine an (rt ?_)
  cases h
  simp [Ret,TB,EN, *]
 replace h:=bB b5 h
 refine ct (sk (an (sq (bk (sq (sq ?_))))))
 obtain ⟨x6,h7,h⟩:=bind_some h
 obtain ⟨q8,q9,q10⟩:=aR h7
 obtain ⟨x11,h12,h⟩:=bind_some h
 refine rd1 mixed (aDr _ _ h12) ?_
 refine an ?_
 rcases bO (!(x6.Site.toList==x11.toList)) with b13 | b13
 ·replace h:=bB b13 h
  refine ct (sq (rn ?_))
  refine an (rt ?_)
  cases h
  simp [Ret,TB,EN, *]
 replace h:=bA b13 h
 refine cf (sk (an (sq (rn ?_))))
 refine an (sq (sq ?_))
 obtain ⟨x14,h15,h⟩:=bind_some h
 refine rd1 mixed (aDr _ _ h15) ?_
 refine an ?_
 rcases bO (!(x6.Top.toList==x14.toList)) with b16 | b16
 ·replace h:=bB b16 h
  refine ct (sq (rn ?_))
  refine an (rt ?_)
  cases h
  simp [Ret,TB,EN, *]
 replace h:=bA b16 h
 refine cf (sk (an (sq (rn ?_))))
 refine an (sq (sq ?_))
 obtain ⟨x17,h18,h⟩:=bind_some h
 refine rd1 mixed (aDr _ _ h18) ?_
 refine an ?_
 rcases bO (!(x6.Registration.Site.toList==x17.toList)) with b19 | b19
 ·replace h:=bB b19 h
  refine ct (sq (rn ?_))
  refine an (rt ?_)
  cases h
  simp [Ret,TB,EN, *]
 replace h:=bA b19 h
 refine cf (sk (an (sq (rn ?_))))
 refine an (sq (sq (rn ?_)))
 refine an ?_
 rcases bO (x6.Registration.Installing != (i64.wrap ((i64.wrap ((i64.wrap (v1+1))+1))+1))) with b20 | b20
 ·replace h:=bB b20 h
  refine ct (sq (rn ?_))
  refine an (rt ?_)
  cases h
  simp [Ret,TB,EN, *]
 replace h:=bA b20 h
 refine cf (sk (an (sq (rn ?_))))
 refine an (sq (sq (rn ?_)))
 refine an ?_
 rcases bO (x6.Registration.Waiting != (i64.wrap ((i64.wrap ((i64.wrap ((i64.wrap (v1+1))+1))+1))+1))) with b21 | b21
 ·replace h:=bB b21 h
  refine ct (sq (rn ?_))
  refine an (rt ?_)
  cases h
  simp [Ret,TB,EN, *]
 replace h:=bA b21 h
 refine cf (sk (an (sq (rn ?_))))
 refine an (sq (sq (rn ?_)))
 refine an ?_
 rcases bO (x6.Registration.Active != (i64.wrap ((i64.wrap ((i64.wrap ((i64.wrap ((i64.wrap (v1+1))+1))+1))+1))+1))) with b22 | b22
 ·replace h:=bB b22 h
  refine ct (sq (rn ?_))
  refine an (rt ?_)
  cases h
  simp [Ret,TB,EN, *]
 replace h:=bA b22 h
 refine cf (sk (an (sq (rn ?_))))
 refine an (sq ?_)
 refine cu (fun s=>s.t 0=vL M.aA.en p0∧s.t 1=vI (i64.wrap ((i64.wrap ((i64.wrap ((i64.wrap ((i64.wrap ((i64.wrap (v1+1))+1))+1))+1))+1))+1))∧s.t 5=vI v5∧True) ?_
 rintro s23 ⟨f24,f25,f26,_⟩
 obtain ⟨x27,h28,h⟩:=bind_some h
 refine rn1 (aQg _ _ _ h28) ?_
 refine an (sq (sq (rn ?_)))
 refine an ?_
 rcases bO (decide (x27<0)) with b29 | b29
 ·replace h:=bB b29 h
  refine ct (sq (rn ?_))
  refine an (rt ?_)
  cases h
  simp [Ret,TB,EN, *]
 replace h:=bA b29 h
 refine cf (sk (an (sq (sq ?_))))
 obtain ⟨x30,h31,h⟩:=bind_some h
 refine rd1 mixed (aDr _ _ h31) ?_
 refine an ?_
 rcases bO (!(x6.bD.Base.Name.toList==x30.toList)) with b32 | b32
 ·replace h:=bB b32 h
  refine ct (sq (rn ?_))
  refine an (rt ?_)
  cases h
  simp [Ret,TB,EN, *]
 replace h:=bA b32 h
 refine cf (sk (an (sq (rn ?_))))
 refine an (sq (sq (rn ?_)))
 refine an ?_
 rcases bO (x6.bD.Base.Version != (i64.wrap (x27+1))) with b33 | b33
 ·replace h:=bB b33 h
  refine ct (sq (rn ?_))
  refine an (rt ?_)
  cases h
  simp [Ret,TB,EN, *]
 replace h:=bA b33 h
 refine cf (sk (an (sq (rn ?_))))
 refine an (sq ?_)
 obtain ⟨x34,h35,h⟩:=bind_some h
 refine rn1 (aQn _ _ _ h35) ?_
 refine an (sq (sq (rn ?_)))
 refine an ?_
 rcases bO (decide (x34<0)) with b36 | b36
 ·replace h:=bB b36 h
  refine ct (sq (rn ?_))
  refine an (rt ?_)
  cases h
  simp [Ret,TB,EN, *]
 replace h:=bA b36 h
 refine cf (sk (an (sq ?_)))
 obtain ⟨x37,h38,h⟩:=bind_some h
 refine rn1 (aQ7 _ _ _ h38) ?_
 refine an (sq (sq (rn ?_)))
 refine an ?_
 rcases bO (decide (x37<0)) with b39 | b39
 ·replace h:=bB b39 h
  refine ct (sq (rn ?_))
  refine an (rt ?_)
  cases h
  simp [Ret,TB,EN, *]
 replace h:=bA b39 h
 refine cf (sk (an (sq ?_)))
 obtain ⟨x40,h41,h⟩:=bind_some h
 refine rn1 (aQa _ _ _ h41) ?_
 refine an (sq (sq (rn ?_)))
 refine an ?_
 rcases bO (decide (x40<0)) with b42 | b42
 ·replace h:=bB b42 h
  refine ct (sq (rn ?_))
  refine an (rt ?_)
  cases h
  simp [Ret,TB,EN, *]
 replace h:=bA b42 h
 refine cf (sk (an (sq (sq ?_))))
 refine cu (fun s=>s.t 0=vL M.aA.en p0∧s.t 1=vI x40∧s.t 5=vI v5∧True) ?_
 rintro s43 ⟨f44,f45,f46,_⟩
 refine rn ?_
 refine an ?_
 rcases bO (x6.bD.Count != x40) with b47 | b47
 ·replace h:=bB b47 h
  refine ct (sq (rn ?_))
  refine an (rt ?_)
  cases h
  simp [Ret,TB,EN, *]
 replace h:=bA b47 h
 refine cf (sk (an (sq (rn ?_))))
 refine an (sq (sq ?_))
 obtain ⟨x48,h49,h⟩:=bind_some h
 refine rd1 mixed (aDr _ _ h49) ?_
 refine an ?_
 rcases bO (!(x6.aC.Base.Name.toList==x48.toList)) with b50 | b50
 ·replace h:=bB b50 h
  refine ct (sq (rn ?_))
  refine an (rt ?_)
  cases h
  simp [Ret,TB,EN, *]
 replace h:=bA b50 h
 refine cf (sk (an (sq (rn ?_))))
 refine an (sq ?_)
 obtain ⟨x51,h52,h⟩:=bind_some h
 refine rn1 (aQI _ _ _ h52) ?_
 refine an (sq (sq (rn ?_)))
 refine an ?_
 rcases bO (decide (x51<0)) with b53 | b53
 ·replace h:=bB b53 h
  refine ct (sq (rn ?_))
  refine an (rt ?_)
  cases h
  simp [Ret,TB,EN, *]
 replace h:=bA b53 h
 refine cf (sk (an (sq (sq (rn ?_)))))
 refine an ?_
 rcases bO (x6.aC.Base.Auto != x51) with b54 | b54
 ·replace h:=bB b54 h
  refine ct (sq (rn ?_))
  refine an (rt ?_)
  cases h
  simp [Ret,TB,EN, *]
 replace h:=bA b54 h
 refine cf (sk (an (sq (rn ?_))))
 refine an (sq (sq (rn ?_)))
 refine an ?_
 rcases bO (x6.aC.Seen != (i64.wrap (x51+1))) with b55 | b55
 ·replace h:=bB b55 h
  refine ct (sq (rn ?_))
  refine an (rt ?_)
  cases h
  simp [Ret,TB,EN, *]
 replace h:=bA b55 h
 refine cf (sk (an (sq (rn ?_))))
 refine an (sq (sq (rn ?_)))
 refine an ?_
 rcases bO (x6.aC.Sync.aN.Device != (i64.wrap ((i64.wrap (x51+1))+1))) with b56 | b56
 ·replace h:=bB b56 h
  refine ct (sq (rn ?_))
  refine an (rt ?_)
  cases h
  simp [Ret,TB,EN, *]
 replace h:=bA b56 h
 refine cf (sk (an (sq (rn ?_))))
 refine an (sq (sq ?_))
 refine cu (fun s=>s.t 0=vL M.aA.en p0∧s.t 1=vI (i64.wrap ((i64.wrap ((i64.wrap (x51+1))+1))+1))∧s.t 5=vI v5∧True) ?_
 rintro s57 ⟨f58,f59,f60,_⟩
 refine rn ?_
 refine an ?_
 rcases bO (x6.aC.Sync.aN.Next != (i64.wrap ((i64.wrap ((i64.wrap (x51+1))+1))+1))) with b61 | b61
 ·replace h:=bB b61 h
  refine ct (sq (rn ?_))
  refine an (rt ?_)
  cases h
  simp [Ret,TB,EN, *]
 replace h:=bA b61 h
 refine cf (sk (an (sq (rn ?_))))
 refine an (sq ?_)
 obtain ⟨x62,h63,h⟩:=bind_some h
 refine rn1 (aQD _ _ _ h63) ?_
 refine an (sq (sq (rn ?_)))
 refine an ?_
 rcases bO (decide (x62<0)) with b64 | b64
 ·replace h:=bB b64 h
  refine ct (sq (rn ?_))
  refine an (rt ?_)
  cases h
  simp [Ret,TB,EN, *]
 replace h:=bA b64 h
 refine cf (sk (an (sq (sq (rn ?_)))))
 refine an ?_
 rcases bO (x6.aC.Sync.Tries != x62) with b65 | b65
 ·replace h:=bB b65 h
  refine ct (sq (rn ?_))
  refine an (rt ?_)
  cases h
  simp [Ret,TB,EN, *]
 replace h:=bA b65 h
 refine cf (sk (an (sq (rn ?_))))
 refine an (sq (sq (rn ?_)))
 refine an ?_
 rcases bO (x6.aC.Sync.WaitUntil != (i64.wrap (x62+1))) with b66 | b66
 ·replace h:=bB b66 h
  refine ct (sq (rn ?_))
  refine an (rt ?_)
  cases h
  simp [Ret,TB,EN, *]
 replace h:=bA b66 h
 refine cf (sk (an (sq (rn ?_))))
 refine an (sq (sq (rn ?_)))
 refine an ?_
 rcases bO (x6.LastUsed != (i64.wrap ((i64.wrap (x62+1))+1))) with b67 | b67
 ·replace h:=bB b67 h
  refine ct (sq (rn ?_))
  refine an (rt ?_)
  cases h
  simp [Ret,TB,EN, *]
 replace h:=bA b67 h
 refine cf (sk (an (sq (rn ?_))))
 refine an (sq (sq (rn ?_)))
 refine an ?_
 rcases bO (!(x6.Persistent==((Int.tmod (i64.wrap ((i64.wrap ((i64.wrap (x62+1))+1))+1)) 3)==0))) with b68 | b68
 ·replace h:=bB b68 h
  refine ct (sq (rn ?_))
  refine an (rt ?_)
  cases h
  simp [Ret,TB,EN, *]
 replace h:=bA b68 h
 refine cf (sk (an (rn ?_)))
 refine ab (an (rn ?_))
 refine xY ⟨mL1,by omega,(i64.wrap ((i64.wrap ((i64.wrap ((i64.wrap (x62+1))+1))+1))+1)),(i64.wrap (v5+1)),?_,?_,?_,h⟩
 all_goals simp +decide only [F,reduceIte,Nat.reduceAdd,Bool.not_true,Bool.not_false,EN, *,-h]
instance:bG 195 (type_of% @aTY):=⟨@aTY⟩
theorem c82 (p0 p1 r) (h:vC p0 p1=some r):Sc 82 [aX (M.aF.en p0),aI p1] [rI r]:=by
 unfold vC at h
 exact sgo 12 [.tmp 4] Tryz.func82
instance:bG 82 (type_of% @c82):=⟨@c82⟩
theorem aQq (p0 p1 r) (h:pD p0 p1=some r):Sc 196 [aL M.aM.en p0,aI p1] [rI r]:=by
 have i1:=inv fun m s=>∃v1:Int,∃v5:Int,(s.t 0=vL M.aM.en p0∧s.t 1=vI v1∧s.t 5=vI v5)∧dH p0 m v1 v5=some r
 have e1:=@dH.eq_2
 unfold pD at h
 exact sgo 32 [.tmp 4] Tryz.func196
instance:bG 196 (type_of% @aQq):=⟨@aQq⟩
theorem aQm (p0 p1 r) (h:qW p0 p1=some r):Sc 197 [aL M.Instr.en p0,aI p1] [rI r]:=by
 have i1:=inv fun m s=>∃v1:Int,∃v5:Int,(s.t 0=vL M.Instr.en p0∧s.t 1=vI v1∧s.t 5=vI v5)∧dY p0 m v1 v5=some r
 have e1:=@dY.eq_2
 unfold qW at h
 exact sgo 50 [.tmp 4] Tryz.func197
instance:bG 197 (type_of% @aQm):=⟨@aQm⟩
theorem aQz (p0 p1 r) (h:wJ p0 p1=some r):Sc 198 [aL enI p0,aI p1] [rI r]:=by
 have i1:=inv fun m s=>∃v1:Int,∃v5:Int,(s.t 0=vL enI p0∧s.t 1=vI v1∧s.t 5=vI v5)∧fU p0 m v1 v5=some r
 have e1:=@fU.eq_2
 unfold wJ at h
 exact sgo 21 [.tmp 4] Tryz.func198
instance:bG 198 (type_of% @aQz):=⟨@aQz⟩
theorem c83 (p0 p1 r) (h:sO p0 p1=some r):Sc 83 [aL M.bJ.en p0,aI p1] [rI r]:=by
 unfold sO at h
 simp only [EN]
 refine sgn 124 [.tmp 4] Tryz.func83 fun base wd => ?_
 refine sq (rn ?_)
 refine an (sq (sq (rn ?_)))
 refine an (bk ?_)
 refine kX (fun m s=>∃v1:Int,∃v5:Int,s.t 0=vL M.bJ.en p0∧s.t 1=vI v1∧s.t 5=vI v5∧dP p0 m v1 v5=some r) fuel ?_ ?_
 ·refine ⟨p1,0,?_,?_,?_,h⟩
  all_goals simp +decide only [F,reduceIte,Nat.reduceAdd,Bool.not_true,Bool.not_false,EN, *,-h]
 rintro mL1 s1 ⟨v1,v5,f2,f3,f4,h⟩
 rcases mL1 with _ | mL1
 ·exact absurd h (by simp [dP])
 simp only [dP] at h
 refine sq (sq (rn ?_))
 refine an ?_
 rcases rQ (decide (v5<(List.length p0:Int))) with b5 | b5
 ·replace h:=bA b5 h
  refine cf (xt (jD (jY (uX (an (sq (rn ?_)))))))
  refine an (rt ?_)
  cases h
  simp [Ret,TB,EN, *]
 replace h:=bB b5 h
 refine ct (sk (an (sq (bk (sq (sq ?_))))))
 obtain ⟨x6,h7,h⟩:=bind_some h
 obtain ⟨q8,q9,q10⟩:=aR h7
 refine rn ?_
 refine an ?_
 rcases bO (x6.Id != v1) with b11 | b11
 ·replace h:=bB b11 h
  refine ct (sq (rn ?_))
  refine an (rt ?_)
  cases h
  simp [Ret,TB,EN, *]
 replace h:=bA b11 h
 refine cf (sk (an (sq (rn ?_))))
 refine an (sq (sq ?_))
 obtain ⟨x12,h13,h⟩:=bind_some h
 refine rd1 mixed (aDr _ _ h13) ?_
 refine an ?_
 rcases bO (!(x6.Site.toList==x12.toList)) with b14 | b14
 ·replace h:=bB b14 h
  refine ct (sq (rn ?_))
  refine an (rt ?_)
  cases h
  simp [Ret,TB,EN, *]
 replace h:=bA b14 h
 refine cf (sk (an (sq (rn ?_))))
 refine an (sq (sq ?_))
 obtain ⟨x15,h16,h⟩:=bind_some h
 refine rd1 mixed (aDr _ _ h16) ?_
 refine an ?_
 rcases bO (!(x6.Top.toList==x15.toList)) with b17 | b17
 ·replace h:=bB b17 h
  refine ct (sq (rn ?_))
  refine an (rt ?_)
  cases h
  simp [Ret,TB,EN, *]
 replace h:=bA b17 h
 refine cf (sk (an (sq (rn ?_))))
 refine an (sq (sq (rn ?_)))
 refine an ?_
 rcases bO (x6.Version != (i64.wrap ((i64.wrap ((i64.wrap (v1+1))+1))+1))) with b18 | b18
 ·replace h:=bB b18 h
  refine ct (sq (rn ?_))
  refine an (rt ?_)
  cases h
  simp [Ret,TB,EN, *]
 replace h:=bA b18 h
 refine cf (sk (an (sq (rn ?_))))
 refine an (sq ?_)
 obtain ⟨x19,h20,h⟩:=bind_some h
 refine rn1 (aQq _ _ _ h20) ?_
 refine an (sq (sq (rn ?_)))
 refine an ?_
 rcases bO (decide (x19<0)) with b21 | b21
 ·replace h:=bB b21 h
  refine ct (sq (rn ?_))
  refine an (rt ?_)
  cases h
  simp [Ret,TB,EN, *]
 replace h:=bA b21 h
 refine cf (sk (an (sq ?_)))
 obtain ⟨x22,h23,h⟩:=bind_some h
 refine rn1 (aQm _ _ _ h23) ?_
 refine an (sq (sq (rn ?_)))
 refine an ?_
 rcases bO (decide (x22<0)) with b24 | b24
 ·replace h:=bB b24 h
  refine ct (sq (rn ?_))
  refine an (rt ?_)
  cases h
  simp [Ret,TB,EN, *]
 replace h:=bA b24 h
 refine cf (sk (an (sq (sq ?_))))
 refine cu (fun s=>s.t 0=vL M.bJ.en p0∧s.t 1=vI x22∧s.t 5=vI v5∧True) ?_
 rintro s25 ⟨f26,f27,f28,_⟩
 refine rn ?_
 refine an ?_
 rcases bO (x6.Machine.Pc != x22) with b29 | b29
 ·replace h:=bB b29 h
  refine ct (sq (rn ?_))
  refine an (rt ?_)
  cases h
  simp [Ret,TB,EN, *]
 replace h:=bA b29 h
 refine cf (sk (an (sq (rn ?_))))
 refine an (sq ?_)
 obtain ⟨x30,h31,h⟩:=bind_some h
 refine rn1 (aQz _ _ _ h31) ?_
 refine an (sq (sq (rn ?_)))
 refine an ?_
 rcases bO (decide (x30<0)) with b32 | b32
 ·replace h:=bB b32 h
  refine ct (sq (rn ?_))
  refine an (rt ?_)
  cases h
  simp [Ret,TB,EN, *]
 replace h:=bA b32 h
 refine cf (sk (an (sq (sq (rn ?_)))))
 refine an ?_
 rcases bO (x6.Machine.Steps != x30) with b33 | b33
 ·replace h:=bB b33 h
  refine ct (sq (rn ?_))
  refine an (rt ?_)
  cases h
  simp [Ret,TB,EN, *]
 replace h:=bA b33 h
 refine cf (sk (an (sq (rn ?_))))
 refine an (sq (sq (rn ?_)))
 refine an ?_
 rcases bO (!(x6.Machine.Done==((Int.tmod (i64.wrap (x30+1)) 3)==0))) with b34 | b34
 ·replace h:=bB b34 h
  refine ct (sq (rn ?_))
  refine an (rt ?_)
  cases h
  simp [Ret,TB,EN, *]
 replace h:=bA b34 h
 refine cf (sk (an (sq (rn ?_))))
 refine an (sq (sq (rn ?_)))
 refine an ?_
 rcases bO (!(x6.Machine.Wait==((Int.tmod (i64.wrap ((i64.wrap (x30+1))+1)) 3)==0))) with b35 | b35
 ·replace h:=bB b35 h
  refine ct (sq (rn ?_))
  refine an (rt ?_)
  cases h
  simp [Ret,TB,EN, *]
 replace h:=bA b35 h
 refine cf (sk (an (rn ?_)))
 refine ab (an (rn ?_))
 refine xY ⟨mL1,by omega,(i64.wrap ((i64.wrap ((i64.wrap (x30+1))+1))+1)),(i64.wrap (v5+1)),?_,?_,?_,h⟩
 all_goals simp +decide only [F,reduceIte,Nat.reduceAdd,Bool.not_true,Bool.not_false,EN, *,-h]
instance:bG 83 (type_of% @c83):=⟨@c83⟩
theorem aTX (p0 p1 r) (h:tO p0 p1=some r):Sc 199 [aL M.cT.en p0,aI p1] [rI r]:=by
 have i1:=inv fun m s=>∃v1:Int,∃v5:Int,(s.t 0=vL M.cT.en p0∧s.t 1=vI v1∧s.t 5=vI v5)∧eZ p0 m v1 v5=some r
 have e1:=@eZ.eq_2
 unfold tO at h
 exact sgo 54 [.tmp 4] Tryz.func199
instance:bG 199 (type_of% @aTX):=⟨@aTX⟩
theorem c84 (p0 p1 r) (h:pS p0 p1=some r):Sc 84 [aX (M.aW.en p0),aI p1] [rI r]:=by
 unfold pS at h
 exact sgo 12 [.tmp 4] Tryz.func84
instance:bG 84 (type_of% @c84):=⟨@c84⟩
theorem aRn (p0 p1 r) (h:tW p0 p1=some r):Sc 200 [aL M.eO.en p0,aI p1] [rI r]:=by
 have i1:=inv fun m s=>∃v1:Int,∃v5:Int,(s.t 0=vL M.eO.en p0∧s.t 1=vI v1∧s.t 5=vI v5)∧fC p0 m v1 v5=some r
 have e1:=@fC.eq_2
 unfold tW at h
 exact sgo 40 [.tmp 4] Tryz.func200
instance:bG 200 (type_of% @aRn):=⟨@aRn⟩
theorem c85 (p0 p1 r) (h:vH p0 p1=some r):Sc 85 [aX (M.Channel.en p0),aI p1] [rI r]:=by
 unfold vH at h
 exact sgo 12 [.tmp 4] Tryz.func85
instance:bG 85 (type_of% @c85):=⟨@c85⟩
theorem aRY (p0 p1 r) (h:oM p0 p1=some r):Sc 201 [aL enS p0,aI p1] [rI r]:=by
 have i1:=inv fun m s=>∃v1:Int,∃v5:Int,(s.t 0=vL enS p0∧s.t 1=vI v1∧s.t 5=vI v5)∧dG p0 m v1 v5=some r
 have e1:=@dG.eq_2
 unfold oM at h
 exact sgo 22 [.tmp 4] Tryz.func201
instance:bG 201 (type_of% @aRY):=⟨@aRY⟩
theorem c86 (p0 p1 r) (h:uL p0 p1=some r):Sc 86 [aL M.Site.en p0,aI p1] [rI r]:=by
 have i1:=inv fun m s=>∃v1:Int,∃v5:Int,(s.t 0=vL M.Site.en p0∧s.t 1=vI v1∧s.t 5=vI v5)∧eT p0 m v1 v5=some r
 have e1:=@eT.eq_2
 unfold uL at h
 exact sgo 52 [.tmp 4] Tryz.func86
instance:bG 86 (type_of% @c86):=⟨@c86⟩
theorem aQj (p0 p1 r) (h:mZ p0 p1=some r):Sc 203 [aL M.aO.en p0,aI p1] [rI r]:=by
 have i1:=inv fun m s=>∃v1:Int,∃v5:Int,(s.t 0=vL M.aO.en p0∧s.t 1=vI v1∧s.t 5=vI v5)∧cU p0 m v1 v5=some r
 have e1:=@cU.eq_2
 unfold mZ at h
 exact sgo 31 [.tmp 4] Tryz.func203
instance:bG 203 (type_of% @aQj):=⟨@aQj⟩
theorem c87 (p0 p1 r) (h:pH p0 p1=some r):Sc 87 [aL M.Server.en p0,aI p1] [rI r]:=by
 unfold pH at h
 simp only [EN]
 refine sgn 62 [.tmp 4] Tryz.func87 fun base wd => ?_
 refine sq (rn ?_)
 refine an (sq (sq (rn ?_)))
 refine an (bk ?_)
 refine kX (fun m s=>∃v1:Int,∃v5:Int,s.t 0=vL M.Server.en p0∧s.t 1=vI v1∧s.t 5=vI v5∧cO p0 m v1 v5=some r) fuel ?_ ?_
 ·refine ⟨p1,0,?_,?_,?_,h⟩
  all_goals simp +decide only [F,reduceIte,Nat.reduceAdd,Bool.not_true,Bool.not_false,EN, *,-h]
 rintro mL1 s1 ⟨v1,v5,f2,f3,f4,h⟩
 rcases mL1 with _ | mL1
 ·exact absurd h (by simp [cO])
 simp only [cO] at h
 refine sq (sq (rn ?_))
 refine an ?_
 rcases rQ (decide (v5<(List.length p0:Int))) with b5 | b5
 ·replace h:=bA b5 h
  refine cf (xt (jD (jY (uX (an (sq (rn ?_)))))))
  refine an (rt ?_)
  cases h
  simp [Ret,TB,EN, *]
 replace h:=bB b5 h
 refine ct (sk (an (sq (bk (sq (sq ?_))))))
 obtain ⟨x6,h7,h⟩:=bind_some h
 obtain ⟨q8,q9,q10⟩:=aR h7
 obtain ⟨x11,h12,h⟩:=bind_some h
 refine rd1 mixed (aDr _ _ h12) ?_
 refine an ?_
 rcases bO (!(x6.aE.Name.toList==x11.toList)) with b13 | b13
 ·replace h:=bB b13 h
  refine ct (sq (rn ?_))
  refine an (rt ?_)
  cases h
  simp [Ret,TB,EN, *]
 replace h:=bA b13 h
 refine cf (sk (an (sq (rn ?_))))
 refine an (sq ?_)
 obtain ⟨x14,h15,h⟩:=bind_some h
 refine rn1 (aQI _ _ _ h15) ?_
 refine an (sq (sq (rn ?_)))
 refine an ?_
 rcases bO (decide (x14<0)) with b16 | b16
 ·replace h:=bB b16 h
  refine ct (sq (rn ?_))
  refine an (rt ?_)
  cases h
  simp [Ret,TB,EN, *]
 replace h:=bA b16 h
 refine cf (sk (an (sq (sq (rn ?_)))))
 refine an ?_
 rcases bO (x6.aE.Auto != x14) with b17 | b17
 ·replace h:=bB b17 h
  refine ct (sq (rn ?_))
  refine an (rt ?_)
  cases h
  simp [Ret,TB,EN, *]
 replace h:=bA b17 h
 refine cf (sk (an (sq (rn ?_))))
 refine an (sq ?_)
 obtain ⟨x18,h19,h⟩:=bind_some h
 refine rn1 (aQj _ _ _ h19) ?_
 refine an (sq (sq (rn ?_)))
 refine an ?_
 rcases bO (decide (x18<0)) with b20 | b20
 ·replace h:=bB b20 h
  refine ct (sq (rn ?_))
  refine an (rt ?_)
  cases h
  simp [Ret,TB,EN, *]
 replace h:=bA b20 h
 refine cf (sk (an (sq ?_)))
 obtain ⟨x21,h22,h⟩:=bind_some h
 refine rn1 (aQD _ _ _ h22) ?_
 refine an (sq (rn ?_))
 refine an ?_
 rcases bO (decide (x21<0)) with b23 | b23
 ·replace h:=bB b23 h
  refine ct (sq (rn ?_))
  refine an (rt ?_)
  cases h
  simp [Ret,TB,EN, *]
 replace h:=bA b23 h
 refine cf (sk (ab (an (rn ?_))))
 refine xY ⟨mL1,by omega,x21,(i64.wrap (v5+1)),?_,?_,?_,h⟩
 all_goals simp +decide only [F,reduceIte,Nat.reduceAdd,Bool.not_true,Bool.not_false,EN, *,-h]
instance:bG 87 (type_of% @c87):=⟨@c87⟩
theorem c20 (p0 p1 r) (h:oF p0 p1=some r):Sc 20 [aX (M.World.en p0),aI p1] [rI r]:=by
 unfold oF at h
 exact sgo 42 [.tmp 4] Tryz.func20
instance:bG 20 (type_of% @c20):=⟨@c20⟩
end Go.Proofs.YtnhpbpnhmapeeaaGreat.gen
