/-
  Helper text. No conditions.
-/
import Derived.Test.YtidhkhdnjonjfaaGreatUpdateWorkerTi
import Derived.Test.YtidhkhdnjonjfaaGreatUpdateWorkerWmark0
set_option linter.unusedVariables false
set_option linter.unusedSimpArgs false
namespace Go.Proofs.YtidhkhdnjonjfaaGreat.gen
open Go Go.Sh
open Go.IntKind (i64)
set_option maxRecDepth 20000
set_option maxHeartbeats 4000000
theorem aTP (p0 p1 r) (h:oY p0 p1=some r):Sc 380 [aL enB p0,aI p1] [rI r]:=by
 have i1:=inv fun m s=>∃v1:Int,∃v5:Int,(s.t 0=vL enB p0∧s.t 1=vI v1∧s.t 5=vI v5)∧fP p0 m v1 v5=some r
 have e1:=@fP.eq_2
 unfold oY at h
 exact sgo 22 [.tmp 4] Tryz.func380
instance:bA 380 (type_of% @aTP):=⟨@aTP⟩
theorem aYQ (p0 p1 r) (h:pP p0 p1=some r):Sc 461 [aL M.Cached.en p0,aI p1] [rI r]:=by
 have i1:=inv fun m s=>∃v1:Int,∃v5:Int,(s.t 0=vL M.Cached.en p0∧s.t 1=vI v1∧s.t 5=vI v5)∧dU p0 m v1 v5=some r
 have e1:=@dU.eq_2
 unfold pP at h
 exact sgo 85 [.tmp 4] Tryz.func461
instance:bA 461 (type_of% @aYQ):=⟨@aYQ⟩
theorem aTA (p0 p1 r) (h:tC p0 p1=some r):Sc 377 [aL M.Cache.en p0,aI p1] [rI r]:=by
 have i1:=inv fun m s=>∃v1:Int,∃v5:Int,(s.t 0=vL M.Cache.en p0∧s.t 1=vI v1∧s.t 5=vI v5)∧eM p0 m v1 v5=some r
 have e1:=@eM.eq_2
 unfold tC at h
 exact sgo 31 [.tmp 4] Tryz.func377
instance:bA 377 (type_of% @aTA):=⟨@aTA⟩
theorem aVm (p0 p1 r) (h:tP p0 p1=some r):Sc 381 [aL M.Field.en p0,aI p1] [rI r]:=by
 have i1:=inv fun m s=>∃v1:Int,∃v5:Int,(s.t 0=vL M.Field.en p0∧s.t 1=vI v1∧s.t 5=vI v5)∧eP p0 m v1 v5=some r
 have e1:=@eP.eq_2
 unfold tP at h
 exact sgo 32 [.tmp 4] Tryz.func381
instance:bA 381 (type_of% @aVm):=⟨@aVm⟩
theorem aSX (p0 p1 r) (h:mK p0 p1=some r):Sc 258 [aL M.Item.en p0,aI p1] [rI r]:=by
 have i1:=inv fun m s=>∃v1:Int,∃v5:Int,(s.t 0=vL M.Item.en p0∧s.t 1=vI v1∧s.t 5=vI v5)∧fR p0 m v1 v5=some r
 have e1:=@fR.eq_2
 unfold mK at h
 exact sgo 54 [.tmp 4] Tryz.func258
instance:bA 258 (type_of% @aSX):=⟨@aSX⟩
theorem aS5 (p0 p1 r) (h:sW p0 p1=some r):Sc 378 [aL M.aJ.en p0,aI p1] [rI r]:=by
 have i1:=inv fun m s=>∃v1:Int,∃v5:Int,(s.t 0=vL M.aJ.en p0∧s.t 1=vI v1∧s.t 5=vI v5)∧eN p0 m v1 v5=some r
 have e1:=@eN.eq_2
 unfold sW at h
 exact sgo 41 [.tmp 4] Tryz.func378
instance:bA 378 (type_of% @aS5):=⟨@aS5⟩
theorem aTO (p0 p1 r) (h:mU p0 p1=some r):Sc 379 [aL M.aD.en p0,aI p1] [rI r]:=by
 have i1:=inv fun m s=>∃v1:Int,∃v5:Int,(s.t 0=vL M.aD.en p0∧s.t 1=vI v1∧s.t 5=vI v5)∧cO p0 m v1 v5=some r
 have e1:=@cO.eq_2
 unfold mU at h
 exact sgo 33 [.tmp 4] Tryz.func379
instance:bA 379 (type_of% @aTO):=⟨@aTO⟩
theorem aSc (p0 p1 r) (h:nQ p0 p1=some r):Sc 260 [aL M.aW.en p0,aI p1] [rI r]:=by
 have i1:=inv fun m s=>∃v1:Int,∃v5:Int,(s.t 0=vL M.aW.en p0∧s.t 1=vI v1∧s.t 5=vI v5)∧eK p0 m v1 v5=some r
 have e1:=@eK.eq_2
 unfold nQ at h
 exact sgo 81 [.tmp 4] Tryz.func260
instance:bA 260 (type_of% @aSc):=⟨@aSc⟩
theorem aV4 (p0 p1 r) (h:rG p0 p1=some r):Sc 251 [aL M.Bucket.en p0,aI p1] [rI r]:=by
 unfold rG at h
 simp only [EN]
 refine sgn 271 [.tmp 4] Tryz.func251 fun base wd => ?_
 refine sq (rn ?_)
 refine an (sq (sq (rn ?_)))
 refine an (bk ?_)
 refine aC9 (fun m s=>∃v1:Int,∃v5:Int,s.t 0=vL M.Bucket.en p0∧s.t 1=vI v1∧s.t 5=vI v5∧cW p0 m v1 v5=some r) fuel ?_ ?_
 ·refine ⟨p1,0,?_,?_,?_,h⟩
  all_goals simp +decide only [F,reduceIte,Nat.reduceAdd,qB,qC,EN, *,-h]
 rintro mL1 s1 ⟨v1,v5,f2,f3,f4,h⟩
 rcases mL1 with _ | mL1
 ·exact absurd h (by simp [cW])
 simp only [cW] at h
 refine sq (sq (rn ?_))
 refine an ?_
 rcases aEL (decide (v5<(List.length p0:Int))) with b5 | b5
 ·replace h:=bR b5 h
  refine cf (xt (aE2 (aEo (aIs (an (sq (rn ?_)))))))
  refine an (rt ?_)
  cases h
  simp [Ret,TB,EN, *]
 replace h:=bT b5 h
 refine ct (sk (an (sq (bk (sq (sq ?_))))))
 obtain ⟨x6,h7,h⟩:=bind_some h
 obtain ⟨q8,q9,q10⟩:=aT h7
 obtain ⟨x11,h12,h⟩:=bind_some h
 refine rd1 mixed (aFW _ _ h12) ?_
 refine an ?_
 rcases gO (!(x6.Site.toList==x11.toList)) with b13 | b13
 ·replace h:=bT b13 h
  refine ct (sq (rn ?_))
  refine an (rt ?_)
  cases h
  simp [Ret,TB,EN, *]
 replace h:=bR b13 h
 refine cf (sk (an (sq (rn ?_))))
 refine an (sq (sq ?_))
 obtain ⟨x14,h15,h⟩:=bind_some h
 refine rd1 mixed (aFW _ _ h15) ?_
 refine an ?_
 rcases gO (!(x6.Top.toList==x14.toList)) with b16 | b16
 ·replace h:=bT b16 h
  refine ct (sq (rn ?_))
  refine an (rt ?_)
  cases h
  simp [Ret,TB,EN, *]
 replace h:=bR b16 h
 refine cf (sk (an (sq (rn ?_))))
 refine an (sq (sq ?_))
 obtain ⟨x17,h18,h⟩:=bind_some h
 refine rd1 mixed (aFW _ _ h18) ?_
 refine an ?_
 rcases gO (!(x6.Registration.Site.toList==x17.toList)) with b19 | b19
 ·replace h:=bT b19 h
  refine ct (sq (rn ?_))
  refine an (rt ?_)
  cases h
  simp [Ret,TB,EN, *]
 replace h:=bR b19 h
 refine cf (sk (an (sq (rn ?_))))
 refine an (sq (sq (rn ?_)))
 refine an ?_
 rcases gO (x6.Registration.Installing != (i64.wrap ((i64.wrap ((i64.wrap (v1+1))+1))+1))) with b20 | b20
 ·replace h:=bT b20 h
  refine ct (sq (rn ?_))
  refine an (rt ?_)
  cases h
  simp [Ret,TB,EN, *]
 replace h:=bR b20 h
 refine cf (sk (an (sq (rn ?_))))
 refine an (sq (sq (rn ?_)))
 refine an ?_
 rcases gO (x6.Registration.Waiting != (i64.wrap ((i64.wrap ((i64.wrap ((i64.wrap (v1+1))+1))+1))+1))) with b21 | b21
 ·replace h:=bT b21 h
  refine ct (sq (rn ?_))
  refine an (rt ?_)
  cases h
  simp [Ret,TB,EN, *]
 replace h:=bR b21 h
 refine cf (sk (an (sq (rn ?_))))
 refine an (sq (sq (rn ?_)))
 refine an ?_
 rcases gO (x6.Registration.Active != (i64.wrap ((i64.wrap ((i64.wrap ((i64.wrap ((i64.wrap (v1+1))+1))+1))+1))+1))) with b22 | b22
 ·replace h:=bT b22 h
  refine ct (sq (rn ?_))
  refine an (rt ?_)
  cases h
  simp [Ret,TB,EN, *]
 replace h:=bR b22 h
 refine cf (sk (an (sq (rn ?_))))
 refine an (sq ?_)
 refine cu (fun s=>s.t 0=vL M.Bucket.en p0∧s.t 1=vI (i64.wrap ((i64.wrap ((i64.wrap ((i64.wrap ((i64.wrap ((i64.wrap (v1+1))+1))+1))+1))+1))+1))∧s.t 5=vI v5∧True) ?_
 rintro s23 ⟨f24,f25,f26,_⟩
 obtain ⟨x27,h28,h⟩:=bind_some h
 refine rn1 (aTA _ _ _ h28) ?_
 refine an (sq (sq (rn ?_)))
 refine an ?_
 rcases gO (decide (x27<0)) with b29 | b29
 ·replace h:=bT b29 h
  refine ct (sq (rn ?_))
  refine an (rt ?_)
  cases h
  simp [Ret,TB,EN, *]
 replace h:=bR b29 h
 refine cf (sk (an (sq (sq ?_))))
 obtain ⟨x30,h31,h⟩:=bind_some h
 refine rd1 mixed (aFW _ _ h31) ?_
 refine an ?_
 rcases gO (!(x6.bB.Base.Name.toList==x30.toList)) with b32 | b32
 ·replace h:=bT b32 h
  refine ct (sq (rn ?_))
  refine an (rt ?_)
  cases h
  simp [Ret,TB,EN, *]
 replace h:=bR b32 h
 refine cf (sk (an (sq (rn ?_))))
 refine an (sq (sq (rn ?_)))
 refine an ?_
 rcases gO (x6.bB.Base.Version != (i64.wrap (x27+1))) with b33 | b33
 ·replace h:=bT b33 h
  refine ct (sq (rn ?_))
  refine an (rt ?_)
  cases h
  simp [Ret,TB,EN, *]
 replace h:=bR b33 h
 refine cf (sk (an (sq (rn ?_))))
 refine an (sq ?_)
 obtain ⟨x34,h35,h⟩:=bind_some h
 refine rn1 (aS5 _ _ _ h35) ?_
 refine an (sq (sq (rn ?_)))
 refine an ?_
 rcases gO (decide (x34<0)) with b36 | b36
 ·replace h:=bT b36 h
  refine ct (sq (rn ?_))
  refine an (rt ?_)
  cases h
  simp [Ret,TB,EN, *]
 replace h:=bR b36 h
 refine cf (sk (an (sq ?_)))
 obtain ⟨x37,h38,h⟩:=bind_some h
 refine rn1 (aTO _ _ _ h38) ?_
 refine an (sq (sq (rn ?_)))
 refine an ?_
 rcases gO (decide (x37<0)) with b39 | b39
 ·replace h:=bT b39 h
  refine ct (sq (rn ?_))
  refine an (rt ?_)
  cases h
  simp [Ret,TB,EN, *]
 replace h:=bR b39 h
 refine cf (sk (an (sq ?_)))
 obtain ⟨x40,h41,h⟩:=bind_some h
 refine rn1 (aTP _ _ _ h41) ?_
 refine an (sq (sq (rn ?_)))
 refine an ?_
 rcases gO (decide (x40<0)) with b42 | b42
 ·replace h:=bT b42 h
  refine ct (sq (rn ?_))
  refine an (rt ?_)
  cases h
  simp [Ret,TB,EN, *]
 replace h:=bR b42 h
 refine cf (sk (an (sq (sq ?_))))
 refine cu (fun s=>s.t 0=vL M.Bucket.en p0∧s.t 1=vI x40∧s.t 5=vI v5∧True) ?_
 rintro s43 ⟨f44,f45,f46,_⟩
 refine rn ?_
 refine an ?_
 rcases gO (x6.bB.Count != x40) with b47 | b47
 ·replace h:=bT b47 h
  refine ct (sq (rn ?_))
  refine an (rt ?_)
  cases h
  simp [Ret,TB,EN, *]
 replace h:=bR b47 h
 refine cf (sk (an (sq (rn ?_))))
 refine an (sq (sq ?_))
 obtain ⟨x48,h49,h⟩:=bind_some h
 refine rd1 mixed (aFW _ _ h49) ?_
 refine an ?_
 rcases gO (!(x6.aE.Base.Name.toList==x48.toList)) with b50 | b50
 ·replace h:=bT b50 h
  refine ct (sq (rn ?_))
  refine an (rt ?_)
  cases h
  simp [Ret,TB,EN, *]
 replace h:=bR b50 h
 refine cf (sk (an (sq (rn ?_))))
 refine an (sq ?_)
 obtain ⟨x51,h52,h⟩:=bind_some h
 refine rn1 (aSX _ _ _ h52) ?_
 refine an (sq (sq (rn ?_)))
 refine an ?_
 rcases gO (decide (x51<0)) with b53 | b53
 ·replace h:=bT b53 h
  refine ct (sq (rn ?_))
  refine an (rt ?_)
  cases h
  simp [Ret,TB,EN, *]
 replace h:=bR b53 h
 refine cf (sk (an (sq (sq (rn ?_)))))
 refine an ?_
 rcases gO (x6.aE.Base.Auto != x51) with b54 | b54
 ·replace h:=bT b54 h
  refine ct (sq (rn ?_))
  refine an (rt ?_)
  cases h
  simp [Ret,TB,EN, *]
 replace h:=bR b54 h
 refine cf (sk (an (sq (rn ?_))))
 refine an (sq (sq (rn ?_)))
 refine an ?_
 rcases gO (x6.aE.Seen != (i64.wrap (x51+1))) with b55 | b55
 ·replace h:=bT b55 h
  refine ct (sq (rn ?_))
  refine an (rt ?_)
  cases h
  simp [Ret,TB,EN, *]
 replace h:=bR b55 h
 refine cf (sk (an (sq (rn ?_))))
 refine an (sq (sq (rn ?_)))
 refine an ?_
 rcases gO (x6.aE.Sync.aV.Device != (i64.wrap ((i64.wrap (x51+1))+1))) with b56 | b56
 ·replace h:=bT b56 h
  refine ct (sq (rn ?_))
  refine an (rt ?_)
  cases h
  simp [Ret,TB,EN, *]
 replace h:=bR b56 h
 refine cf (sk (an (sq (rn ?_))))
 refine an (sq (sq ?_))
 refine cu (fun s=>s.t 0=vL M.Bucket.en p0∧s.t 1=vI (i64.wrap ((i64.wrap ((i64.wrap (x51+1))+1))+1))∧s.t 5=vI v5∧True) ?_
 rintro s57 ⟨f58,f59,f60,_⟩
 refine rn ?_
 refine an ?_
 rcases gO (x6.aE.Sync.aV.Next != (i64.wrap ((i64.wrap ((i64.wrap (x51+1))+1))+1))) with b61 | b61
 ·replace h:=bT b61 h
  refine ct (sq (rn ?_))
  refine an (rt ?_)
  cases h
  simp [Ret,TB,EN, *]
 replace h:=bR b61 h
 refine cf (sk (an (sq (rn ?_))))
 refine an (sq ?_)
 obtain ⟨x62,h63,h⟩:=bind_some h
 refine rn1 (aSc _ _ _ h63) ?_
 refine an (sq (sq (rn ?_)))
 refine an ?_
 rcases gO (decide (x62<0)) with b64 | b64
 ·replace h:=bT b64 h
  refine ct (sq (rn ?_))
  refine an (rt ?_)
  cases h
  simp [Ret,TB,EN, *]
 replace h:=bR b64 h
 refine cf (sk (an (sq (sq (rn ?_)))))
 refine an ?_
 rcases gO (x6.aE.Sync.Tries != x62) with b65 | b65
 ·replace h:=bT b65 h
  refine ct (sq (rn ?_))
  refine an (rt ?_)
  cases h
  simp [Ret,TB,EN, *]
 replace h:=bR b65 h
 refine cf (sk (an (sq (rn ?_))))
 refine an (sq (sq (rn ?_)))
 refine an ?_
 rcases gO (x6.aE.Sync.WaitUntil != (i64.wrap (x62+1))) with b66 | b66
 ·replace h:=bT b66 h
  refine ct (sq (rn ?_))
  refine an (rt ?_)
  cases h
  simp [Ret,TB,EN, *]
 replace h:=bR b66 h
 refine cf (sk (an (sq (rn ?_))))
 refine an (sq (sq (rn ?_)))
 refine an ?_
 rcases gO (x6.LastUsed != (i64.wrap ((i64.wrap (x62+1))+1))) with b67 | b67
 ·replace h:=bT b67 h
  refine ct (sq (rn ?_))
  refine an (rt ?_)
  cases h
  simp [Ret,TB,EN, *]
 replace h:=bR b67 h
 refine cf (sk (an (sq (rn ?_))))
 refine an (sq (sq (rn ?_)))
 refine an ?_
 rcases gO (!(x6.Persistent==((Int.tmod (i64.wrap ((i64.wrap ((i64.wrap (x62+1))+1))+1)) 3)==0))) with b68 | b68
 ·replace h:=bT b68 h
  refine ct (sq (rn ?_))
  refine an (rt ?_)
  cases h
  simp [Ret,TB,EN, *]
 replace h:=bR b68 h
 refine cf (sk (an (rn ?_)))
 refine ab (an (rn ?_))
 refine aHA ⟨mL1,by omega,(i64.wrap ((i64.wrap ((i64.wrap ((i64.wrap (x62+1))+1))+1))+1)),(i64.wrap (v5+1)),?_,?_,?_,h⟩
 all_goals simp +decide only [F,reduceIte,Nat.reduceAdd,qB,qC,EN, *,-h]
instance:bA 251 (type_of% @aV4):=⟨@aV4⟩
theorem aW3 (p0 p1 r) (h:yL p0 p1=some r):Sc 118 [aX (M.aC.en p0),aI p1] [rI r]:=by
 unfold yL at h
 exact sgo 12 [.tmp 4] Tryz.func118
instance:bA 118 (type_of% @aW3):=⟨@aW3⟩
theorem aTg (p0 p1 r) (h:rO p0 p1=some r):Sc 252 [aL M.aN.en p0,aI p1] [rI r]:=by
 have i1:=inv fun m s=>∃v1:Int,∃v5:Int,(s.t 0=vL M.aN.en p0∧s.t 1=vI v1∧s.t 5=vI v5)∧dS p0 m v1 v5=some r
 have e1:=@dS.eq_2
 unfold rO at h
 exact sgo 32 [.tmp 4] Tryz.func252
instance:bA 252 (type_of% @aTg):=⟨@aTg⟩
theorem aTK (p0 p1 r) (h:uA p0 p1=some r):Sc 253 [aL M.Instr.en p0,aI p1] [rI r]:=by
 have i1:=inv fun m s=>∃v1:Int,∃v5:Int,(s.t 0=vL M.Instr.en p0∧s.t 1=vI v1∧s.t 5=vI v5)∧eJ p0 m v1 v5=some r
 have e1:=@eJ.eq_2
 unfold uA at h
 exact sgo 50 [.tmp 4] Tryz.func253
instance:bA 253 (type_of% @aTK):=⟨@aTK⟩
theorem aTy (p0 p1 r) (h:zM p0 p1=some r):Sc 254 [aL enI p0,aI p1] [rI r]:=by
 have i1:=inv fun m s=>∃v1:Int,∃v5:Int,(s.t 0=vL enI p0∧s.t 1=vI v1∧s.t 5=vI v5)∧gI p0 m v1 v5=some r
 have e1:=@gI.eq_2
 unfold zM at h
 exact sgo 21 [.tmp 4] Tryz.func254
instance:bA 254 (type_of% @aTy):=⟨@aTy⟩
theorem aU9 (p0 p1 r) (h:vV p0 p1=some r):Sc 119 [aL M.bJ.en p0,aI p1] [rI r]:=by
 unfold vV at h
 simp only [EN]
 refine sgn 124 [.tmp 4] Tryz.func119 fun base wd => ?_
 refine sq (rn ?_)
 refine an (sq (sq (rn ?_)))
 refine an (bk ?_)
 refine aC9 (fun m s=>∃v1:Int,∃v5:Int,s.t 0=vL M.bJ.en p0∧s.t 1=vI v1∧s.t 5=vI v5∧eB p0 m v1 v5=some r) fuel ?_ ?_
 ·refine ⟨p1,0,?_,?_,?_,h⟩
  all_goals simp +decide only [F,reduceIte,Nat.reduceAdd,qB,qC,EN, *,-h]
 rintro mL1 s1 ⟨v1,v5,f2,f3,f4,h⟩
 rcases mL1 with _ | mL1
 ·exact absurd h (by simp [eB])
 simp only [eB] at h
 refine sq (sq (rn ?_))
 refine an ?_
 rcases aEL (decide (v5<(List.length p0:Int))) with b5 | b5
 ·replace h:=bR b5 h
  refine cf (xt (aE2 (aEo (aIs (an (sq (rn ?_)))))))
  refine an (rt ?_)
  cases h
  simp [Ret,TB,EN, *]
 replace h:=bT b5 h
 refine ct (sk (an (sq (bk (sq (sq ?_))))))
 obtain ⟨x6,h7,h⟩:=bind_some h
 obtain ⟨q8,q9,q10⟩:=aT h7
 refine rn ?_
 refine an ?_
 rcases gO (x6.Id != v1) with b11 | b11
 ·replace h:=bT b11 h
  refine ct (sq (rn ?_))
  refine an (rt ?_)
  cases h
  simp [Ret,TB,EN, *]
 replace h:=bR b11 h
 refine cf (sk (an (sq (rn ?_))))
 refine an (sq (sq ?_))
 obtain ⟨x12,h13,h⟩:=bind_some h
 refine rd1 mixed (aFW _ _ h13) ?_
 refine an ?_
 rcases gO (!(x6.Site.toList==x12.toList)) with b14 | b14
 ·replace h:=bT b14 h
  refine ct (sq (rn ?_))
  refine an (rt ?_)
  cases h
  simp [Ret,TB,EN, *]
 replace h:=bR b14 h
 refine cf (sk (an (sq (rn ?_))))
 refine an (sq (sq ?_))
 obtain ⟨x15,h16,h⟩:=bind_some h
 refine rd1 mixed (aFW _ _ h16) ?_
 refine an ?_
 rcases gO (!(x6.Top.toList==x15.toList)) with b17 | b17
 ·replace h:=bT b17 h
  refine ct (sq (rn ?_))
  refine an (rt ?_)
  cases h
  simp [Ret,TB,EN, *]
 replace h:=bR b17 h
 refine cf (sk (an (sq (rn ?_))))
 refine an (sq (sq (rn ?_)))
 refine an ?_
 rcases gO (x6.Version != (i64.wrap ((i64.wrap ((i64.wrap (v1+1))+1))+1))) with b18 | b18
 ·replace h:=bT b18 h
  refine ct (sq (rn ?_))
  refine an (rt ?_)
  cases h
  simp [Ret,TB,EN, *]
 replace h:=bR b18 h
 refine cf (sk (an (sq (rn ?_))))
 refine an (sq ?_)
 obtain ⟨x19,h20,h⟩:=bind_some h
 refine rn1 (aTg _ _ _ h20) ?_
 refine an (sq (sq (rn ?_)))
 refine an ?_
 rcases gO (decide (x19<0)) with b21 | b21
 ·replace h:=bT b21 h
  refine ct (sq (rn ?_))
  refine an (rt ?_)
  cases h
  simp [Ret,TB,EN, *]
 replace h:=bR b21 h
 refine cf (sk (an (sq ?_)))
 obtain ⟨x22,h23,h⟩:=bind_some h
 refine rn1 (aTK _ _ _ h23) ?_
 refine an (sq (sq (rn ?_)))
 refine an ?_
 rcases gO (decide (x22<0)) with b24 | b24
 ·replace h:=bT b24 h
  refine ct (sq (rn ?_))
  refine an (rt ?_)
  cases h
  simp [Ret,TB,EN, *]
 replace h:=bR b24 h
 refine cf (sk (an (sq (sq ?_))))
 refine cu (fun s=>s.t 0=vL M.bJ.en p0∧s.t 1=vI x22∧s.t 5=vI v5∧True) ?_
 rintro s25 ⟨f26,f27,f28,_⟩
 refine rn ?_
 refine an ?_
 rcases gO (x6.Machine.Pc != x22) with b29 | b29
 ·replace h:=bT b29 h
  refine ct (sq (rn ?_))
  refine an (rt ?_)
  cases h
  simp [Ret,TB,EN, *]
 replace h:=bR b29 h
 refine cf (sk (an (sq (rn ?_))))
 refine an (sq ?_)
 obtain ⟨x30,h31,h⟩:=bind_some h
 refine rn1 (aTy _ _ _ h31) ?_
 refine an (sq (sq (rn ?_)))
 refine an ?_
 rcases gO (decide (x30<0)) with b32 | b32
 ·replace h:=bT b32 h
  refine ct (sq (rn ?_))
  refine an (rt ?_)
  cases h
  simp [Ret,TB,EN, *]
 replace h:=bR b32 h
 refine cf (sk (an (sq (sq (rn ?_)))))
 refine an ?_
 rcases gO (x6.Machine.Steps != x30) with b33 | b33
 ·replace h:=bT b33 h
  refine ct (sq (rn ?_))
  refine an (rt ?_)
  cases h
  simp [Ret,TB,EN, *]
 replace h:=bR b33 h
 refine cf (sk (an (sq (rn ?_))))
 refine an (sq (sq (rn ?_)))
 refine an ?_
 rcases gO (!(x6.Machine.Done==((Int.tmod (i64.wrap (x30+1)) 3)==0))) with b34 | b34
 ·replace h:=bT b34 h
  refine ct (sq (rn ?_))
  refine an (rt ?_)
  cases h
  simp [Ret,TB,EN, *]
 replace h:=bR b34 h
 refine cf (sk (an (sq (rn ?_))))
 refine an (sq (sq (rn ?_)))
 refine an ?_
 rcases gO (!(x6.Machine.Wait==((Int.tmod (i64.wrap ((i64.wrap (x30+1))+1)) 3)==0))) with b35 | b35
 ·replace h:=bT b35 h
  refine ct (sq (rn ?_))
  refine an (rt ?_)
  cases h
  simp [Ret,TB,EN, *]
 replace h:=bR b35 h
 refine cf (sk (an (rn ?_)))
 refine ab (an (rn ?_))
 refine aHA ⟨mL1,by omega,(i64.wrap ((i64.wrap ((i64.wrap (x30+1))+1))+1)),(i64.wrap (v5+1)),?_,?_,?_,h⟩
 all_goals simp +decide only [F,reduceIte,Nat.reduceAdd,qB,qC,EN, *,-h]
instance:bA 119 (type_of% @aU9):=⟨@aU9⟩
theorem aWX (p0 p1 r) (h:wW p0 p1=some r):Sc 255 [aL M.dA.en p0,aI p1] [rI r]:=by
 have i1:=inv fun m s=>∃v1:Int,∃v5:Int,(s.t 0=vL M.dA.en p0∧s.t 1=vI v1∧s.t 5=vI v5)∧fQ p0 m v1 v5=some r
 have e1:=@fQ.eq_2
 unfold wW at h
 exact sgo 54 [.tmp 4] Tryz.func255
instance:bA 255 (type_of% @aWX):=⟨@aWX⟩
theorem aU8 (p0 p1 r) (h:sS p0 p1=some r):Sc 120 [aX (M.aP.en p0),aI p1] [rI r]:=by
 unfold sS at h
 exact sgo 12 [.tmp 4] Tryz.func120
instance:bA 120 (type_of% @aU8):=⟨@aU8⟩
theorem aYf (p0 p1 r) (h:xE p0 p1=some r):Sc 256 [aL M.fW.en p0,aI p1] [rI r]:=by
 have i1:=inv fun m s=>∃v1:Int,∃v5:Int,(s.t 0=vL M.fW.en p0∧s.t 1=vI v1∧s.t 5=vI v5)∧fU p0 m v1 v5=some r
 have e1:=@fU.eq_2
 unfold xE at h
 exact sgo 40 [.tmp 4] Tryz.func256
instance:bA 256 (type_of% @aYf):=⟨@aYf⟩
theorem aWR (p0 p1 r) (h:yP p0 p1=some r):Sc 121 [aX (M.Channel.en p0),aI p1] [rI r]:=by
 unfold yP at h
 exact sgo 12 [.tmp 4] Tryz.func121
instance:bA 121 (type_of% @aWR):=⟨@aWR⟩
theorem aVd (p0 p1 r) (h:pW p0 p1=some r):Sc 257 [aL enS p0,aI p1] [rI r]:=by
 have i1:=inv fun m s=>∃v1:Int,∃v5:Int,(s.t 0=vL enS p0∧s.t 1=vI v1∧s.t 5=vI v5)∧dR p0 m v1 v5=some r
 have e1:=@dR.eq_2
 unfold pW at h
 exact sgo 22 [.tmp 4] Tryz.func257
instance:bA 257 (type_of% @aVd):=⟨@aVd⟩
theorem aWv (p0 p1 r) (h:xU p0 p1=some r):Sc 122 [aL M.Site.en p0,aI p1] [rI r]:=by
 have i1:=inv fun m s=>∃v1:Int,∃v5:Int,(s.t 0=vL M.Site.en p0∧s.t 1=vI v1∧s.t 5=vI v5)∧fI p0 m v1 v5=some r
 have e1:=@fI.eq_2
 unfold xU at h
 exact sgo 52 [.tmp 4] Tryz.func122
instance:bA 122 (type_of% @aWv):=⟨@aWv⟩
theorem aTN (p0 p1 r) (h:oH p0 p1=some r):Sc 259 [aL M.aK.en p0,aI p1] [rI r]:=by
 have i1:=inv fun m s=>∃v1:Int,∃v5:Int,(s.t 0=vL M.aK.en p0∧s.t 1=vI v1∧s.t 5=vI v5)∧dF p0 m v1 v5=some r
 have e1:=@dF.eq_2
 unfold oH at h
 exact sgo 31 [.tmp 4] Tryz.func259
instance:bA 259 (type_of% @aTN):=⟨@aTN⟩
theorem aWk (p0 p1 r) (h:rY p0 p1=some r):Sc 123 [aL M.Server.en p0,aI p1] [rI r]:=by
 unfold rY at h
 simp only [EN]
 refine sgn 62 [.tmp 4] Tryz.func123 fun base wd => ?_
 refine sq (rn ?_)
 refine an (sq (sq (rn ?_)))
 refine an (bk ?_)
 refine aC9 (fun m s=>∃v1:Int,∃v5:Int,s.t 0=vL M.Server.en p0∧s.t 1=vI v1∧s.t 5=vI v5∧cV p0 m v1 v5=some r) fuel ?_ ?_
 ·refine ⟨p1,0,?_,?_,?_,h⟩
  all_goals simp +decide only [F,reduceIte,Nat.reduceAdd,qB,qC,EN, *,-h]
 rintro mL1 s1 ⟨v1,v5,f2,f3,f4,h⟩
 rcases mL1 with _ | mL1
 ·exact absurd h (by simp [cV])
 simp only [cV] at h
 refine sq (sq (rn ?_))
 refine an ?_
 rcases aEL (decide (v5<(List.length p0:Int))) with b5 | b5
 ·replace h:=bR b5 h
  refine cf (xt (aE2 (aEo (aIs (an (sq (rn ?_)))))))
  refine an (rt ?_)
  cases h
  simp [Ret,TB,EN, *]
 replace h:=bT b5 h
 refine ct (sk (an (sq (bk (sq (sq ?_))))))
 obtain ⟨x6,h7,h⟩:=bind_some h
 obtain ⟨q8,q9,q10⟩:=aT h7
 obtain ⟨x11,h12,h⟩:=bind_some h
 refine rd1 mixed (aFW _ _ h12) ?_
 refine an ?_
 rcases gO (!(x6.aJ.Name.toList==x11.toList)) with b13 | b13
 ·replace h:=bT b13 h
  refine ct (sq (rn ?_))
  refine an (rt ?_)
  cases h
  simp [Ret,TB,EN, *]
 replace h:=bR b13 h
 refine cf (sk (an (sq (rn ?_))))
 refine an (sq ?_)
 obtain ⟨x14,h15,h⟩:=bind_some h
 refine rn1 (aSX _ _ _ h15) ?_
 refine an (sq (sq (rn ?_)))
 refine an ?_
 rcases gO (decide (x14<0)) with b16 | b16
 ·replace h:=bT b16 h
  refine ct (sq (rn ?_))
  refine an (rt ?_)
  cases h
  simp [Ret,TB,EN, *]
 replace h:=bR b16 h
 refine cf (sk (an (sq (sq (rn ?_)))))
 refine an ?_
 rcases gO (x6.aJ.Auto != x14) with b17 | b17
 ·replace h:=bT b17 h
  refine ct (sq (rn ?_))
  refine an (rt ?_)
  cases h
  simp [Ret,TB,EN, *]
 replace h:=bR b17 h
 refine cf (sk (an (sq (rn ?_))))
 refine an (sq ?_)
 obtain ⟨x18,h19,h⟩:=bind_some h
 refine rn1 (aTN _ _ _ h19) ?_
 refine an (sq (sq (rn ?_)))
 refine an ?_
 rcases gO (decide (x18<0)) with b20 | b20
 ·replace h:=bT b20 h
  refine ct (sq (rn ?_))
  refine an (rt ?_)
  cases h
  simp [Ret,TB,EN, *]
 replace h:=bR b20 h
 refine cf (sk (an (sq ?_)))
 obtain ⟨x21,h22,h⟩:=bind_some h
 refine rn1 (aSc _ _ _ h22) ?_
 refine an (sq (rn ?_))
 refine an ?_
 rcases gO (decide (x21<0)) with b23 | b23
 ·replace h:=bT b23 h
  refine ct (sq (rn ?_))
  refine an (rt ?_)
  cases h
  simp [Ret,TB,EN, *]
 replace h:=bR b23 h
 refine cf (sk (ab (an (rn ?_))))
 refine aHA ⟨mL1,by omega,x21,(i64.wrap (v5+1)),?_,?_,?_,h⟩
 all_goals simp +decide only [F,reduceIte,Nat.reduceAdd,qB,qC,EN, *,-h]
instance:bA 123 (type_of% @aWk):=⟨@aWk⟩
theorem c30 (p0 p1 r) (h:pM p0 p1=some r):Sc 30 [aX (M.World.en p0),aI p1] [rI r]:=by
 unfold pM at h
 exact sgo 42 [.tmp 4] Tryz.func30
instance:bA 30 (type_of% @c30):=⟨@c30⟩
end Go.Proofs.YtidhkhdnjonjfaaGreat.gen
