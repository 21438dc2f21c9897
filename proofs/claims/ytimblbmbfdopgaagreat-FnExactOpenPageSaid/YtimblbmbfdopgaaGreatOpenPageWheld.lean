/-
  Helper text. No conditions.
-/
import Derived.Test.YtimblbmbfdopgaaGreatOpenPageTi
import Derived.Test.YtimblbmbfdopgaaGreatOpenPageWmark0
set_option linter.unusedVariables false
set_option linter.unusedSimpArgs false
namespace Go.Proofs.YtimblbmbfdopgaaGreat.gen
open Go Go.Sh
open Go.IntKind (i64)
set_option maxRecDepth 20000
set_option maxHeartbeats 4000000
theorem aSO (p0 p1 r) (h:oO p0 p1=some r):Sc 428 [aL enB p0,aI p1] [rI r]:=by
 have i1:=inv fun m s=>∃v1:Int,∃v5:Int,(s.t 0=vL enB p0∧s.t 1=vI v1∧s.t 5=vI v5)∧fI p0 m v1 v5=some r
 have e1:=@fI.eq_2
 unfold oO at h
 exact sgo 22 [.tmp 4] Tryz.func428
instance:bD 428 (type_of% @aSO):=⟨@aSO⟩
theorem aVE (p0 p1 r) (h:pF p0 p1=some r):Sc 519 [aL M.Cached.en p0,aI p1] [rI r]:=by
 have i1:=inv fun m s=>∃v1:Int,∃v5:Int,(s.t 0=vL M.Cached.en p0∧s.t 1=vI v1∧s.t 5=vI v5)∧dO p0 m v1 v5=some r
 have e1:=@dO.eq_2
 unfold pF at h
 exact sgo 85 [.tmp 4] Tryz.func519
instance:bD 519 (type_of% @aVE):=⟨@aVE⟩
theorem aTU (p0 p1 r) (h:sN p0 p1=some r):Sc 425 [aL M.Cache.en p0,aI p1] [rI r]:=by
 have i1:=inv fun m s=>∃v1:Int,∃v5:Int,(s.t 0=vL M.Cache.en p0∧s.t 1=vI v1∧s.t 5=vI v5)∧eG p0 m v1 v5=some r
 have e1:=@eG.eq_2
 unfold sN at h
 exact sgo 31 [.tmp 4] Tryz.func425
instance:bD 425 (type_of% @aTU):=⟨@aTU⟩
theorem aWU (p0 p1 r) (h:tE p0 p1=some r):Sc 429 [aL M.Field.en p0,aI p1] [rI r]:=by
 have i1:=inv fun m s=>∃v1:Int,∃v5:Int,(s.t 0=vL M.Field.en p0∧s.t 1=vI v1∧s.t 5=vI v5)∧eK p0 m v1 v5=some r
 have e1:=@eK.eq_2
 unfold tE at h
 exact sgo 32 [.tmp 4] Tryz.func429
instance:bD 429 (type_of% @aWU):=⟨@aWU⟩
theorem aRx (p0 p1 r) (h:mI p0 p1=some r):Sc 290 [aL M.Item.en p0,aI p1] [rI r]:=by
 have i1:=inv fun m s=>∃v1:Int,∃v5:Int,(s.t 0=vL M.Item.en p0∧s.t 1=vI v1∧s.t 5=vI v5)∧fK p0 m v1 v5=some r
 have e1:=@fK.eq_2
 unfold mI at h
 exact sgo 54 [.tmp 4] Tryz.func290
instance:bD 290 (type_of% @aRx):=⟨@aRx⟩
theorem aSk (p0 p1 r) (h:sI p0 p1=some r):Sc 426 [aL M.aH.en p0,aI p1] [rI r]:=by
 have i1:=inv fun m s=>∃v1:Int,∃v5:Int,(s.t 0=vL M.aH.en p0∧s.t 1=vI v1∧s.t 5=vI v5)∧eH p0 m v1 v5=some r
 have e1:=@eH.eq_2
 unfold sI at h
 exact sgo 41 [.tmp 4] Tryz.func426
instance:bD 426 (type_of% @aSk):=⟨@aSk⟩
theorem aTA (p0 p1 r) (h:mP p0 p1=some r):Sc 427 [aL M.aE.en p0,aI p1] [rI r]:=by
 have i1:=inv fun m s=>∃v1:Int,∃v5:Int,(s.t 0=vL M.aE.en p0∧s.t 1=vI v1∧s.t 5=vI v5)∧cM p0 m v1 v5=some r
 have e1:=@cM.eq_2
 unfold mP at h
 exact sgo 33 [.tmp 4] Tryz.func427
instance:bD 427 (type_of% @aTA):=⟨@aTA⟩
theorem aRz (p0 p1 r) (h:nI p0 p1=some r):Sc 292 [aL M.aZ.en p0,aI p1] [rI r]:=by
 have i1:=inv fun m s=>∃v1:Int,∃v5:Int,(s.t 0=vL M.aZ.en p0∧s.t 1=vI v1∧s.t 5=vI v5)∧eE p0 m v1 v5=some r
 have e1:=@eE.eq_2
 unfold nI at h
 exact sgo 81 [.tmp 4] Tryz.func292
instance:bD 292 (type_of% @aRz):=⟨@aRz⟩
theorem aUB (p0 p1 r) (h:pV p0 p1=some r):Sc 283 [aL M.aC.en p0,aI p1] [rI r]:=by
 unfold pV at h
 simp only [EN]
 refine sgn 271 [.tmp 4] Tryz.func283 fun base wd => ?_
 refine sq (rn ?_)
 refine an (sq (sq (rn ?_)))
 refine an (bk ?_)
 refine aC5 (fun m s=>∃v1:Int,∃v5:Int,s.t 0=vL M.aC.en p0∧s.t 1=vI v1∧s.t 5=vI v5∧cT p0 m v1 v5=some r) fuel ?_ ?_
 ·refine ⟨p1,0,?_,?_,?_,h⟩
  all_goals simp +decide only [F,reduceIte,Nat.reduceAdd,qB,qC,EN, *,-h]
 rintro mL1 s1 ⟨v1,v5,f2,f3,f4,h⟩
 rcases mL1 with _ | mL1
 ·exact absurd h (by simp [cT])
 simp only [cT] at h
 refine sq (sq (rn ?_))
 refine an ?_
 rcases aEW (decide (v5<(List.length p0:Int))) with b5 | b5
 ·replace h:=bI b5 h
  refine cf (xt (aEz (aEh (aIT (an (sq (rn ?_)))))))
  refine an (rt ?_)
  cases h
  simp [Ret,TB,EN, *]
 replace h:=bJ b5 h
 refine ct (sk (an (sq (bk (sq (sq ?_))))))
 obtain ⟨x6,h7,h⟩:=bind_some h
 obtain ⟨q8,q9,q10⟩:=aV h7
 obtain ⟨x11,h12,h⟩:=bind_some h
 refine rd1 mixed (aFI _ _ h12) ?_
 refine an ?_
 rcases bS (!(x6.Site.toList==x11.toList)) with b13 | b13
 ·replace h:=bJ b13 h
  refine ct (sq (rn ?_))
  refine an (rt ?_)
  cases h
  simp [Ret,TB,EN, *]
 replace h:=bI b13 h
 refine cf (sk (an (sq (rn ?_))))
 refine an (sq (sq ?_))
 obtain ⟨x14,h15,h⟩:=bind_some h
 refine rd1 mixed (aFI _ _ h15) ?_
 refine an ?_
 rcases bS (!(x6.Top.toList==x14.toList)) with b16 | b16
 ·replace h:=bJ b16 h
  refine ct (sq (rn ?_))
  refine an (rt ?_)
  cases h
  simp [Ret,TB,EN, *]
 replace h:=bI b16 h
 refine cf (sk (an (sq (rn ?_))))
 refine an (sq (sq ?_))
 obtain ⟨x17,h18,h⟩:=bind_some h
 refine rd1 mixed (aFI _ _ h18) ?_
 refine an ?_
 rcases bS (!(x6.Registration.Site.toList==x17.toList)) with b19 | b19
 ·replace h:=bJ b19 h
  refine ct (sq (rn ?_))
  refine an (rt ?_)
  cases h
  simp [Ret,TB,EN, *]
 replace h:=bI b19 h
 refine cf (sk (an (sq (rn ?_))))
 refine an (sq (sq (rn ?_)))
 refine an ?_
 rcases bS (x6.Registration.Installing != (i64.wrap ((i64.wrap ((i64.wrap (v1+1))+1))+1))) with b20 | b20
 ·replace h:=bJ b20 h
  refine ct (sq (rn ?_))
  refine an (rt ?_)
  cases h
  simp [Ret,TB,EN, *]
 replace h:=bI b20 h
 refine cf (sk (an (sq (rn ?_))))
 refine an (sq (sq (rn ?_)))
 refine an ?_
 rcases bS (x6.Registration.Waiting != (i64.wrap ((i64.wrap ((i64.wrap ((i64.wrap (v1+1))+1))+1))+1))) with b21 | b21
 ·replace h:=bJ b21 h
  refine ct (sq (rn ?_))
  refine an (rt ?_)
  cases h
  simp [Ret,TB,EN, *]
 replace h:=bI b21 h
 refine cf (sk (an (sq (rn ?_))))
 refine an (sq (sq (rn ?_)))
 refine an ?_
 rcases bS (x6.Registration.Active != (i64.wrap ((i64.wrap ((i64.wrap ((i64.wrap ((i64.wrap (v1+1))+1))+1))+1))+1))) with b22 | b22
 ·replace h:=bJ b22 h
  refine ct (sq (rn ?_))
  refine an (rt ?_)
  cases h
  simp [Ret,TB,EN, *]
 replace h:=bI b22 h
 refine cf (sk (an (sq (rn ?_))))
 refine an (sq ?_)
 refine cu (fun s=>s.t 0=vL M.aC.en p0∧s.t 1=vI (i64.wrap ((i64.wrap ((i64.wrap ((i64.wrap ((i64.wrap ((i64.wrap (v1+1))+1))+1))+1))+1))+1))∧s.t 5=vI v5∧True) ?_
 rintro s23 ⟨f24,f25,f26,_⟩
 obtain ⟨x27,h28,h⟩:=bind_some h
 refine rn1 (aTU _ _ _ h28) ?_
 refine an (sq (sq (rn ?_)))
 refine an ?_
 rcases bS (decide (x27<0)) with b29 | b29
 ·replace h:=bJ b29 h
  refine ct (sq (rn ?_))
  refine an (rt ?_)
  cases h
  simp [Ret,TB,EN, *]
 replace h:=bI b29 h
 refine cf (sk (an (sq (sq ?_))))
 obtain ⟨x30,h31,h⟩:=bind_some h
 refine rd1 mixed (aFI _ _ h31) ?_
 refine an ?_
 rcases bS (!(x6.bC.Base.Name.toList==x30.toList)) with b32 | b32
 ·replace h:=bJ b32 h
  refine ct (sq (rn ?_))
  refine an (rt ?_)
  cases h
  simp [Ret,TB,EN, *]
 replace h:=bI b32 h
 refine cf (sk (an (sq (rn ?_))))
 refine an (sq (sq (rn ?_)))
 refine an ?_
 rcases bS (x6.bC.Base.Version != (i64.wrap (x27+1))) with b33 | b33
 ·replace h:=bJ b33 h
  refine ct (sq (rn ?_))
  refine an (rt ?_)
  cases h
  simp [Ret,TB,EN, *]
 replace h:=bI b33 h
 refine cf (sk (an (sq (rn ?_))))
 refine an (sq ?_)
 obtain ⟨x34,h35,h⟩:=bind_some h
 refine rn1 (aSk _ _ _ h35) ?_
 refine an (sq (sq (rn ?_)))
 refine an ?_
 rcases bS (decide (x34<0)) with b36 | b36
 ·replace h:=bJ b36 h
  refine ct (sq (rn ?_))
  refine an (rt ?_)
  cases h
  simp [Ret,TB,EN, *]
 replace h:=bI b36 h
 refine cf (sk (an (sq ?_)))
 obtain ⟨x37,h38,h⟩:=bind_some h
 refine rn1 (aTA _ _ _ h38) ?_
 refine an (sq (sq (rn ?_)))
 refine an ?_
 rcases bS (decide (x37<0)) with b39 | b39
 ·replace h:=bJ b39 h
  refine ct (sq (rn ?_))
  refine an (rt ?_)
  cases h
  simp [Ret,TB,EN, *]
 replace h:=bI b39 h
 refine cf (sk (an (sq ?_)))
 obtain ⟨x40,h41,h⟩:=bind_some h
 refine rn1 (aSO _ _ _ h41) ?_
 refine an (sq (sq (rn ?_)))
 refine an ?_
 rcases bS (decide (x40<0)) with b42 | b42
 ·replace h:=bJ b42 h
  refine ct (sq (rn ?_))
  refine an (rt ?_)
  cases h
  simp [Ret,TB,EN, *]
 replace h:=bI b42 h
 refine cf (sk (an (sq (sq ?_))))
 refine cu (fun s=>s.t 0=vL M.aC.en p0∧s.t 1=vI x40∧s.t 5=vI v5∧True) ?_
 rintro s43 ⟨f44,f45,f46,_⟩
 refine rn ?_
 refine an ?_
 rcases bS (x6.bC.Count != x40) with b47 | b47
 ·replace h:=bJ b47 h
  refine ct (sq (rn ?_))
  refine an (rt ?_)
  cases h
  simp [Ret,TB,EN, *]
 replace h:=bI b47 h
 refine cf (sk (an (sq (rn ?_))))
 refine an (sq (sq ?_))
 obtain ⟨x48,h49,h⟩:=bind_some h
 refine rd1 mixed (aFI _ _ h49) ?_
 refine an ?_
 rcases bS (!(x6.aD.Base.Name.toList==x48.toList)) with b50 | b50
 ·replace h:=bJ b50 h
  refine ct (sq (rn ?_))
  refine an (rt ?_)
  cases h
  simp [Ret,TB,EN, *]
 replace h:=bI b50 h
 refine cf (sk (an (sq (rn ?_))))
 refine an (sq ?_)
 obtain ⟨x51,h52,h⟩:=bind_some h
 refine rn1 (aRx _ _ _ h52) ?_
 refine an (sq (sq (rn ?_)))
 refine an ?_
 rcases bS (decide (x51<0)) with b53 | b53
 ·replace h:=bJ b53 h
  refine ct (sq (rn ?_))
  refine an (rt ?_)
  cases h
  simp [Ret,TB,EN, *]
 replace h:=bI b53 h
 refine cf (sk (an (sq (sq (rn ?_)))))
 refine an ?_
 rcases bS (x6.aD.Base.Auto != x51) with b54 | b54
 ·replace h:=bJ b54 h
  refine ct (sq (rn ?_))
  refine an (rt ?_)
  cases h
  simp [Ret,TB,EN, *]
 replace h:=bI b54 h
 refine cf (sk (an (sq (rn ?_))))
 refine an (sq (sq (rn ?_)))
 refine an ?_
 rcases bS (x6.aD.Seen != (i64.wrap (x51+1))) with b55 | b55
 ·replace h:=bJ b55 h
  refine ct (sq (rn ?_))
  refine an (rt ?_)
  cases h
  simp [Ret,TB,EN, *]
 replace h:=bI b55 h
 refine cf (sk (an (sq (rn ?_))))
 refine an (sq (sq (rn ?_)))
 refine an ?_
 rcases bS (x6.aD.Sync.aR.Device != (i64.wrap ((i64.wrap (x51+1))+1))) with b56 | b56
 ·replace h:=bJ b56 h
  refine ct (sq (rn ?_))
  refine an (rt ?_)
  cases h
  simp [Ret,TB,EN, *]
 replace h:=bI b56 h
 refine cf (sk (an (sq (rn ?_))))
 refine an (sq (sq ?_))
 refine cu (fun s=>s.t 0=vL M.aC.en p0∧s.t 1=vI (i64.wrap ((i64.wrap ((i64.wrap (x51+1))+1))+1))∧s.t 5=vI v5∧True) ?_
 rintro s57 ⟨f58,f59,f60,_⟩
 refine rn ?_
 refine an ?_
 rcases bS (x6.aD.Sync.aR.Next != (i64.wrap ((i64.wrap ((i64.wrap (x51+1))+1))+1))) with b61 | b61
 ·replace h:=bJ b61 h
  refine ct (sq (rn ?_))
  refine an (rt ?_)
  cases h
  simp [Ret,TB,EN, *]
 replace h:=bI b61 h
 refine cf (sk (an (sq (rn ?_))))
 refine an (sq ?_)
 obtain ⟨x62,h63,h⟩:=bind_some h
 refine rn1 (aRz _ _ _ h63) ?_
 refine an (sq (sq (rn ?_)))
 refine an ?_
 rcases bS (decide (x62<0)) with b64 | b64
 ·replace h:=bJ b64 h
  refine ct (sq (rn ?_))
  refine an (rt ?_)
  cases h
  simp [Ret,TB,EN, *]
 replace h:=bI b64 h
 refine cf (sk (an (sq (sq (rn ?_)))))
 refine an ?_
 rcases bS (x6.aD.Sync.Tries != x62) with b65 | b65
 ·replace h:=bJ b65 h
  refine ct (sq (rn ?_))
  refine an (rt ?_)
  cases h
  simp [Ret,TB,EN, *]
 replace h:=bI b65 h
 refine cf (sk (an (sq (rn ?_))))
 refine an (sq (sq (rn ?_)))
 refine an ?_
 rcases bS (x6.aD.Sync.WaitUntil != (i64.wrap (x62+1))) with b66 | b66
 ·replace h:=bJ b66 h
  refine ct (sq (rn ?_))
  refine an (rt ?_)
  cases h
  simp [Ret,TB,EN, *]
 replace h:=bI b66 h
 refine cf (sk (an (sq (rn ?_))))
 refine an (sq (sq (rn ?_)))
 refine an ?_
 rcases bS (x6.LastUsed != (i64.wrap ((i64.wrap (x62+1))+1))) with b67 | b67
 ·replace h:=bJ b67 h
  refine ct (sq (rn ?_))
  refine an (rt ?_)
  cases h
  simp [Ret,TB,EN, *]
 replace h:=bI b67 h
 refine cf (sk (an (sq (rn ?_))))
 refine an (sq (sq (rn ?_)))
 refine an ?_
 rcases bS (!(x6.Persistent==((Int.tmod (i64.wrap ((i64.wrap ((i64.wrap (x62+1))+1))+1)) 3)==0))) with b68 | b68
 ·replace h:=bJ b68 h
  refine ct (sq (rn ?_))
  refine an (rt ?_)
  cases h
  simp [Ret,TB,EN, *]
 replace h:=bI b68 h
 refine cf (sk (an (rn ?_)))
 refine ab (an (rn ?_))
 refine mG ⟨mL1,by omega,(i64.wrap ((i64.wrap ((i64.wrap ((i64.wrap (x62+1))+1))+1))+1)),(i64.wrap (v5+1)),?_,?_,?_,h⟩
 all_goals simp +decide only [F,reduceIte,Nat.reduceAdd,qB,qC,EN, *,-h]
instance:bD 283 (type_of% @aUB):=⟨@aUB⟩
theorem aT3 (p0 p1 r) (h:yA p0 p1=some r):Sc 111 [aX (M.aA.en p0),aI p1] [rI r]:=by
 unfold yA at h
 exact sgo 12 [.tmp 4] Tryz.func111
instance:bD 111 (type_of% @aT3):=⟨@aT3⟩
theorem aSG (p0 p1 r) (h:rA p0 p1=some r):Sc 284 [aL M.aK.en p0,aI p1] [rI r]:=by
 have i1:=inv fun m s=>∃v1:Int,∃v5:Int,(s.t 0=vL M.aK.en p0∧s.t 1=vI v1∧s.t 5=vI v5)∧dN p0 m v1 v5=some r
 have e1:=@dN.eq_2
 unfold rA at h
 exact sgo 32 [.tmp 4] Tryz.func284
instance:bD 284 (type_of% @aSG):=⟨@aSG⟩
theorem aTZ (p0 p1 r) (h:tV p0 p1=some r):Sc 285 [aL M.Instr.en p0,aI p1] [rI r]:=by
 have i1:=inv fun m s=>∃v1:Int,∃v5:Int,(s.t 0=vL M.Instr.en p0∧s.t 1=vI v1∧s.t 5=vI v5)∧eD p0 m v1 v5=some r
 have e1:=@eD.eq_2
 unfold tV at h
 exact sgo 50 [.tmp 4] Tryz.func285
instance:bD 285 (type_of% @aTZ):=⟨@aTZ⟩
theorem aR9 (p0 p1 r) (h:zA p0 p1=some r):Sc 286 [aL enI p0,aI p1] [rI r]:=by
 have i1:=inv fun m s=>∃v1:Int,∃v5:Int,(s.t 0=vL enI p0∧s.t 1=vI v1∧s.t 5=vI v5)∧gA p0 m v1 v5=some r
 have e1:=@gA.eq_2
 unfold zA at h
 exact sgo 21 [.tmp 4] Tryz.func286
instance:bD 286 (type_of% @aR9):=⟨@aR9⟩
theorem aTh (p0 p1 r) (h:vT p0 p1=some r):Sc 112 [aL M.bH.en p0,aI p1] [rI r]:=by
 unfold vT at h
 simp only [EN]
 refine sgn 124 [.tmp 4] Tryz.func112 fun base wd => ?_
 refine sq (rn ?_)
 refine an (sq (sq (rn ?_)))
 refine an (bk ?_)
 refine aC5 (fun m s=>∃v1:Int,∃v5:Int,s.t 0=vL M.bH.en p0∧s.t 1=vI v1∧s.t 5=vI v5∧dV p0 m v1 v5=some r) fuel ?_ ?_
 ·refine ⟨p1,0,?_,?_,?_,h⟩
  all_goals simp +decide only [F,reduceIte,Nat.reduceAdd,qB,qC,EN, *,-h]
 rintro mL1 s1 ⟨v1,v5,f2,f3,f4,h⟩
 rcases mL1 with _ | mL1
 ·exact absurd h (by simp [dV])
 simp only [dV] at h
 refine sq (sq (rn ?_))
 refine an ?_
 rcases aEW (decide (v5<(List.length p0:Int))) with b5 | b5
 ·replace h:=bI b5 h
  refine cf (xt (aEz (aEh (aIT (an (sq (rn ?_)))))))
  refine an (rt ?_)
  cases h
  simp [Ret,TB,EN, *]
 replace h:=bJ b5 h
 refine ct (sk (an (sq (bk (sq (sq ?_))))))
 obtain ⟨x6,h7,h⟩:=bind_some h
 obtain ⟨q8,q9,q10⟩:=aV h7
 refine rn ?_
 refine an ?_
 rcases bS (x6.Id != v1) with b11 | b11
 ·replace h:=bJ b11 h
  refine ct (sq (rn ?_))
  refine an (rt ?_)
  cases h
  simp [Ret,TB,EN, *]
 replace h:=bI b11 h
 refine cf (sk (an (sq (rn ?_))))
 refine an (sq (sq ?_))
 obtain ⟨x12,h13,h⟩:=bind_some h
 refine rd1 mixed (aFI _ _ h13) ?_
 refine an ?_
 rcases bS (!(x6.Site.toList==x12.toList)) with b14 | b14
 ·replace h:=bJ b14 h
  refine ct (sq (rn ?_))
  refine an (rt ?_)
  cases h
  simp [Ret,TB,EN, *]
 replace h:=bI b14 h
 refine cf (sk (an (sq (rn ?_))))
 refine an (sq (sq ?_))
 obtain ⟨x15,h16,h⟩:=bind_some h
 refine rd1 mixed (aFI _ _ h16) ?_
 refine an ?_
 rcases bS (!(x6.Top.toList==x15.toList)) with b17 | b17
 ·replace h:=bJ b17 h
  refine ct (sq (rn ?_))
  refine an (rt ?_)
  cases h
  simp [Ret,TB,EN, *]
 replace h:=bI b17 h
 refine cf (sk (an (sq (rn ?_))))
 refine an (sq (sq (rn ?_)))
 refine an ?_
 rcases bS (x6.Version != (i64.wrap ((i64.wrap ((i64.wrap (v1+1))+1))+1))) with b18 | b18
 ·replace h:=bJ b18 h
  refine ct (sq (rn ?_))
  refine an (rt ?_)
  cases h
  simp [Ret,TB,EN, *]
 replace h:=bI b18 h
 refine cf (sk (an (sq (rn ?_))))
 refine an (sq ?_)
 obtain ⟨x19,h20,h⟩:=bind_some h
 refine rn1 (aSG _ _ _ h20) ?_
 refine an (sq (sq (rn ?_)))
 refine an ?_
 rcases bS (decide (x19<0)) with b21 | b21
 ·replace h:=bJ b21 h
  refine ct (sq (rn ?_))
  refine an (rt ?_)
  cases h
  simp [Ret,TB,EN, *]
 replace h:=bI b21 h
 refine cf (sk (an (sq ?_)))
 obtain ⟨x22,h23,h⟩:=bind_some h
 refine rn1 (aTZ _ _ _ h23) ?_
 refine an (sq (sq (rn ?_)))
 refine an ?_
 rcases bS (decide (x22<0)) with b24 | b24
 ·replace h:=bJ b24 h
  refine ct (sq (rn ?_))
  refine an (rt ?_)
  cases h
  simp [Ret,TB,EN, *]
 replace h:=bI b24 h
 refine cf (sk (an (sq (sq ?_))))
 refine cu (fun s=>s.t 0=vL M.bH.en p0∧s.t 1=vI x22∧s.t 5=vI v5∧True) ?_
 rintro s25 ⟨f26,f27,f28,_⟩
 refine rn ?_
 refine an ?_
 rcases bS (x6.Machine.Pc != x22) with b29 | b29
 ·replace h:=bJ b29 h
  refine ct (sq (rn ?_))
  refine an (rt ?_)
  cases h
  simp [Ret,TB,EN, *]
 replace h:=bI b29 h
 refine cf (sk (an (sq (rn ?_))))
 refine an (sq ?_)
 obtain ⟨x30,h31,h⟩:=bind_some h
 refine rn1 (aR9 _ _ _ h31) ?_
 refine an (sq (sq (rn ?_)))
 refine an ?_
 rcases bS (decide (x30<0)) with b32 | b32
 ·replace h:=bJ b32 h
  refine ct (sq (rn ?_))
  refine an (rt ?_)
  cases h
  simp [Ret,TB,EN, *]
 replace h:=bI b32 h
 refine cf (sk (an (sq (sq (rn ?_)))))
 refine an ?_
 rcases bS (x6.Machine.Steps != x30) with b33 | b33
 ·replace h:=bJ b33 h
  refine ct (sq (rn ?_))
  refine an (rt ?_)
  cases h
  simp [Ret,TB,EN, *]
 replace h:=bI b33 h
 refine cf (sk (an (sq (rn ?_))))
 refine an (sq (sq (rn ?_)))
 refine an ?_
 rcases bS (!(x6.Machine.Done==((Int.tmod (i64.wrap (x30+1)) 3)==0))) with b34 | b34
 ·replace h:=bJ b34 h
  refine ct (sq (rn ?_))
  refine an (rt ?_)
  cases h
  simp [Ret,TB,EN, *]
 replace h:=bI b34 h
 refine cf (sk (an (sq (rn ?_))))
 refine an (sq (sq (rn ?_)))
 refine an ?_
 rcases bS (!(x6.Machine.Wait==((Int.tmod (i64.wrap ((i64.wrap (x30+1))+1)) 3)==0))) with b35 | b35
 ·replace h:=bJ b35 h
  refine ct (sq (rn ?_))
  refine an (rt ?_)
  cases h
  simp [Ret,TB,EN, *]
 replace h:=bI b35 h
 refine cf (sk (an (rn ?_)))
 refine ab (an (rn ?_))
 refine mG ⟨mL1,by omega,(i64.wrap ((i64.wrap ((i64.wrap (x30+1))+1))+1)),(i64.wrap (v5+1)),?_,?_,?_,h⟩
 all_goals simp +decide only [F,reduceIte,Nat.reduceAdd,qB,qC,EN, *,-h]
instance:bD 112 (type_of% @aTh):=⟨@aTh⟩
theorem aU5 (p0 p1 r) (h:wQ p0 p1=some r):Sc 287 [aL M.cJ.en p0,aI p1] [rI r]:=by
 have i1:=inv fun m s=>∃v1:Int,∃v5:Int,(s.t 0=vL M.cJ.en p0∧s.t 1=vI v1∧s.t 5=vI v5)∧fJ p0 m v1 v5=some r
 have e1:=@fJ.eq_2
 unfold wQ at h
 exact sgo 54 [.tmp 4] Tryz.func287
instance:bD 287 (type_of% @aU5):=⟨@aU5⟩
theorem aVy (p0 p1 r) (h:sE p0 p1=some r):Sc 113 [aX (M.aQ.en p0),aI p1] [rI r]:=by
 unfold sE at h
 exact sgo 12 [.tmp 4] Tryz.func113
instance:bD 113 (type_of% @aVy):=⟨@aVy⟩
theorem aVt (p0 p1 r) (h:wX p0 p1=some r):Sc 288 [aL M.eU.en p0,aI p1] [rI r]:=by
 have i1:=inv fun m s=>∃v1:Int,∃v5:Int,(s.t 0=vL M.eU.en p0∧s.t 1=vI v1∧s.t 5=vI v5)∧fN p0 m v1 v5=some r
 have e1:=@fN.eq_2
 unfold wX at h
 exact sgo 40 [.tmp 4] Tryz.func288
instance:bD 288 (type_of% @aVt):=⟨@aVt⟩
theorem aWF (p0 p1 r) (h:yE p0 p1=some r):Sc 114 [aX (M.Channel.en p0),aI p1] [rI r]:=by
 unfold yE at h
 exact sgo 12 [.tmp 4] Tryz.func114
instance:bD 114 (type_of% @aWF):=⟨@aWF⟩
theorem aYB (p0 p1 r) (h:pM p0 p1=some r):Sc 289 [aL enS p0,aI p1] [rI r]:=by
 have i1:=inv fun m s=>∃v1:Int,∃v5:Int,(s.t 0=vL enS p0∧s.t 1=vI v1∧s.t 5=vI v5)∧dM p0 m v1 v5=some r
 have e1:=@dM.eq_2
 unfold pM at h
 exact sgo 22 [.tmp 4] Tryz.func289
instance:bD 289 (type_of% @aYB):=⟨@aYB⟩
theorem aWx (p0 p1 r) (h:xP p0 p1=some r):Sc 115 [aL M.Site.en p0,aI p1] [rI r]:=by
 have i1:=inv fun m s=>∃v1:Int,∃v5:Int,(s.t 0=vL M.Site.en p0∧s.t 1=vI v1∧s.t 5=vI v5)∧fC p0 m v1 v5=some r
 have e1:=@fC.eq_2
 unfold xP at h
 exact sgo 52 [.tmp 4] Tryz.func115
instance:bD 115 (type_of% @aWx):=⟨@aWx⟩
theorem aSl (p0 p1 r) (h:nZ p0 p1=some r):Sc 291 [aL M.aM.en p0,aI p1] [rI r]:=by
 have i1:=inv fun m s=>∃v1:Int,∃v5:Int,(s.t 0=vL M.aM.en p0∧s.t 1=vI v1∧s.t 5=vI v5)∧dB p0 m v1 v5=some r
 have e1:=@dB.eq_2
 unfold nZ at h
 exact sgo 31 [.tmp 4] Tryz.func291
instance:bD 291 (type_of% @aSl):=⟨@aSl⟩
theorem aX9 (p0 p1 r) (h:rJ p0 p1=some r):Sc 116 [aL M.Server.en p0,aI p1] [rI r]:=by
 unfold rJ at h
 simp only [EN]
 refine sgn 62 [.tmp 4] Tryz.func116 fun base wd => ?_
 refine sq (rn ?_)
 refine an (sq (sq (rn ?_)))
 refine an (bk ?_)
 refine aC5 (fun m s=>∃v1:Int,∃v5:Int,s.t 0=vL M.Server.en p0∧s.t 1=vI v1∧s.t 5=vI v5∧cR p0 m v1 v5=some r) fuel ?_ ?_
 ·refine ⟨p1,0,?_,?_,?_,h⟩
  all_goals simp +decide only [F,reduceIte,Nat.reduceAdd,qB,qC,EN, *,-h]
 rintro mL1 s1 ⟨v1,v5,f2,f3,f4,h⟩
 rcases mL1 with _ | mL1
 ·exact absurd h (by simp [cR])
 simp only [cR] at h
 refine sq (sq (rn ?_))
 refine an ?_
 rcases aEW (decide (v5<(List.length p0:Int))) with b5 | b5
 ·replace h:=bI b5 h
  refine cf (xt (aEz (aEh (aIT (an (sq (rn ?_)))))))
  refine an (rt ?_)
  cases h
  simp [Ret,TB,EN, *]
 replace h:=bJ b5 h
 refine ct (sk (an (sq (bk (sq (sq ?_))))))
 obtain ⟨x6,h7,h⟩:=bind_some h
 obtain ⟨q8,q9,q10⟩:=aV h7
 obtain ⟨x11,h12,h⟩:=bind_some h
 refine rd1 mixed (aFI _ _ h12) ?_
 refine an ?_
 rcases bS (!(x6.aH.Name.toList==x11.toList)) with b13 | b13
 ·replace h:=bJ b13 h
  refine ct (sq (rn ?_))
  refine an (rt ?_)
  cases h
  simp [Ret,TB,EN, *]
 replace h:=bI b13 h
 refine cf (sk (an (sq (rn ?_))))
 refine an (sq ?_)
 obtain ⟨x14,h15,h⟩:=bind_some h
 refine rn1 (aRx _ _ _ h15) ?_
 refine an (sq (sq (rn ?_)))
 refine an ?_
 rcases bS (decide (x14<0)) with b16 | b16
 ·replace h:=bJ b16 h
  refine ct (sq (rn ?_))
  refine an (rt ?_)
  cases h
  simp [Ret,TB,EN, *]
 replace h:=bI b16 h
 refine cf (sk (an (sq (sq (rn ?_)))))
 refine an ?_
 rcases bS (x6.aH.Auto != x14) with b17 | b17
 ·replace h:=bJ b17 h
  refine ct (sq (rn ?_))
  refine an (rt ?_)
  cases h
  simp [Ret,TB,EN, *]
 replace h:=bI b17 h
 refine cf (sk (an (sq (rn ?_))))
 refine an (sq ?_)
 obtain ⟨x18,h19,h⟩:=bind_some h
 refine rn1 (aSl _ _ _ h19) ?_
 refine an (sq (sq (rn ?_)))
 refine an ?_
 rcases bS (decide (x18<0)) with b20 | b20
 ·replace h:=bJ b20 h
  refine ct (sq (rn ?_))
  refine an (rt ?_)
  cases h
  simp [Ret,TB,EN, *]
 replace h:=bI b20 h
 refine cf (sk (an (sq ?_)))
 obtain ⟨x21,h22,h⟩:=bind_some h
 refine rn1 (aRz _ _ _ h22) ?_
 refine an (sq (rn ?_))
 refine an ?_
 rcases bS (decide (x21<0)) with b23 | b23
 ·replace h:=bJ b23 h
  refine ct (sq (rn ?_))
  refine an (rt ?_)
  cases h
  simp [Ret,TB,EN, *]
 replace h:=bI b23 h
 refine cf (sk (ab (an (rn ?_))))
 refine mG ⟨mL1,by omega,x21,(i64.wrap (v5+1)),?_,?_,?_,h⟩
 all_goals simp +decide only [F,reduceIte,Nat.reduceAdd,qB,qC,EN, *,-h]
instance:bD 116 (type_of% @aX9):=⟨@aX9⟩
theorem c20 (p0 p1 r) (h:pD p0 p1=some r):Sc 20 [aX (M.World.en p0),aI p1] [rI r]:=by
 unfold pD at h
 exact sgo 42 [.tmp 4] Tryz.func20
instance:bD 20 (type_of% @c20):=⟨@c20⟩
end Go.Proofs.YtimblbmbfdopgaaGreat.gen
