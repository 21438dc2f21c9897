/-
  Helper text. No conditions.
-/
import Derived.Test.YtidhkhdnjonjfaaGreatBucketsTi
set_option linter.unusedVariables false
set_option linter.unusedSimpArgs false
namespace Go.Proofs.YtidhkhdnjonjfaaGreat.gen
open Go Go.Sh
set_option maxRecDepth 20000
set_option maxHeartbeats 4000000
theorem c60 (p0 p1 p2 r) (h:bB p0 p1 p2=some r):Sc 60 [aI p0,aI p1,aI p2] [rB r]:=by
 unfold bB at h
 exact sgo 15 [.tmp 6] Tryz.func60
instance:bP 60 (type_of% @c60):=⟨@c60⟩
theorem aSn (p0 r) (h:rZ p0=some r):Sc 416 [aS p0] [rB r]:=by
 have i1:=inv fun m s=>∃v3:Int,(s.t 0=vS p0∧s.t 3=vI v3)∧eY p0 m v3=some r
 have e1:=@eY.eq_2
 unfold rZ at h
 exact sgo 35 [.tmp 2] Tryz.func416
instance:bP 416 (type_of% @aSn):=⟨@aSn⟩
theorem aRG (p0 r) (h:dU p0=some r):Sc 304 [aX (M.Key.en p0)] [rB r]:=by
 unfold dU at h
 exact sgo 36 [.tmp 2] Tryz.func304
instance:bP 304 (type_of% @aRG):=⟨@aRG⟩
theorem c55 (p0 r) (h:cX p0=some r):Sc 55 [aS p0] [rB r]:=by
 have i1:=inv fun m s=>∃v3:Int,(s.t 0=vS p0∧s.t 3=vI v3)∧jB p0 m v3=some r
 have e1:=@jB.eq_2
 unfold cX at h
 exact sgo 23 [.tmp 2] Tryz.func55
instance:bP 55 (type_of% @c55):=⟨@c55⟩
theorem aS2 (p0 r) (h:fP p0=some r):Sc 308 [aX (M.aT.en p0)] [rB r]:=by
 unfold fP at h
 exact sgo 26 [.tmp 2] Tryz.func308
instance:bP 308 (type_of% @aS2):=⟨@aS2⟩
theorem c56 (p0 r) (h:hU p0=some r):Sc 56 [aX (M.Registration.en p0)] [rB r]:=by
 unfold hU at h
 simp only [EN]
 refine sgn 52 [.tmp 2] Tryz.func56 fun base wd => ?_
 refine sq (rn ?_)
 refine an (sq (rn ?_))
 refine an (sq (rn ?_))
 refine an (sq (sq ?_))
 refine cu (fun s=>s.t 1=vP 1 1 0∧s.t 3=vI 0∧s.t 4=vR 100012 1∧s.h 1=(1,oX 25 (M.Registration.en p0))∧s.h 100012=(1,oW 3 1 enI ([p0.Active,p0.Waiting,p0.Installing]))∧True) ?_
 rintro s1 ⟨f2,f3,f4,f5,f6,_⟩
 refine rn ?_
 refine an (bk ?_)
 refine wH (fun m s=>∃v3:Int,∃v5:Int,s.t 1=vP 1 1 0∧s.t 3=vI v3∧s.t 4=vR 100012 1∧s.t 5=vI v5∧s.h 1=(1,oX 25 (M.Registration.en p0))∧s.h 100012=(1,oW 3 1 enI ([p0.Active,p0.Waiting,p0.Installing]))∧bM p0 m v3 v5=some r) fuel ?_ ?_
 ·refine ⟨0,0,?_,?_,?_,?_,?_,?_,h⟩
  all_goals simp +decide only [F,reduceIte,Nat.reduceAdd,qB,qC,EN, *,-h]
 rintro mL1 s7 ⟨v3,v5,f8,f9,f10,f11,f12,f13,h⟩
 rcases mL1 with _ | mL1
 ·exact absurd h (by simp [bM])
 simp only [bM] at h
 refine sq (sq (rn ?_))
 refine an ?_
 rcases wF (decide (v5<((3:Nat):Int))) with b14 | b14
 ·replace h:=bY b14 h
  refine cf (xt (wD (vT (aAi (an (sq ?_))))))
  obtain ⟨x25,h26,h⟩:=bind_some h
  refine rn1 (c55 _ _ h26) ?_
  refine an (rt ?_)
  cases h
  simp [Ret,TB,EN, *]
 replace h:=cD b14 h
 refine ct (sk (an (sq (bk (sq (sq ?_))))))
 obtain ⟨x15,h16,h⟩:=bind_some h
 obtain ⟨q17,q18,q19⟩:=jG h16
 have q17m:=congrArg (Option.map enI) (show ([p0.Active,p0.Waiting,p0.Installing])[v5.toNat]? = some x15 by assumption)
 simp only [←List.getElem?_map,List.map_cons,List.map_nil,Option.map_some,EN] at q17m
 simp only [qJ,qK,Nat.reduceAdd] at q19
 obtain ⟨x20,h21,h⟩:=bind_some h
 rcases lN (!x20) with b22 | b22
 ·replace h:=cD b22 h
  refine rn1 (c60 _ _ _ _ h21) ?_
  refine an (ct (sq (rn ?_)))
  refine an (rt ?_)
  cases h
  simp [Ret,TB,EN, *]
 replace h:=bY b22 h
 rcases wF (x15 != 0) with b23 | b23
 ·replace h:=bY b23 h
  refine rn1 (c60 _ _ _ _ h21) ?_
  refine an (cf (sk (an (sq (rn ?_)))))
  refine an (cf (sk (ab (an (rn ?_)))))
  refine iB ⟨mL1,by omega,v3,(IntKind.i64.wrap (v5+1)),?_,?_,?_,?_,?_,?_,h⟩
  all_goals simp +decide only [F,reduceIte,Nat.reduceAdd,qB,qC,EN, *,-h]
 replace h:=cD b23 h
 refine rn1 (c60 _ _ _ _ h21) ?_
 refine an ?_
 rcases lN (decide (x15≤v3)) with b24 | b24
 ·replace h:=cD b24 h
  refine ct (sq (rn ?_))
  refine an (rt ?_)
  cases h
  simp [Ret,TB,EN, *]
 replace h:=bY b24 h
 refine cf (sk (an (sq (rn ?_))))
 refine an (ct (rn ?_))
 refine ab (an (rn ?_))
 refine iB ⟨mL1,by omega,x15,(IntKind.i64.wrap (v5+1)),?_,?_,?_,?_,?_,?_,h⟩
 all_goals simp +decide only [F,reduceIte,Nat.reduceAdd,qB,qC,EN, *,-h]
instance:bP 56 (type_of% @c56):=⟨@c56⟩
theorem aSC (p0 r) (h:oR p0=some r):Sc 303 [aX (M.Response.en p0)] [rB r]:=by
 unfold oR at h
 exact sgo 22 [.tmp 2] Tryz.func303
instance:bP 303 (type_of% @aSC):=⟨@aSC⟩
theorem aRz (p0 r) (h:lU p0=some r):Sc 158 [aL M.Cached.en p0] [rB r]:=by
 have i1:=inv fun m s=>∃v3:Int,(s.t 0=vL M.Cached.en p0∧s.t 3=vI v3)∧dH p0 m v3=some r
 have e1:=@dH.eq_2
 have i2:=fun (v3:Int) (x5:M.Cached) (k20:Int→Option Bool)=>inv fun m s=>∃v4_L2:Int,(s.t 0=vL M.Cached.en p0∧s.t 3=vI v3∧s.t 4=vI v4_L2)∧eJ p0 v3 x5 k20 m v4_L2=some r
 have e2:=@eJ.eq_2
 unfold lU at h
 exact sgo 68 [.tmp 2] Tryz.func158
instance:bP 158 (type_of% @aRz):=⟨@aRz⟩
theorem aRP (p0 r) (h:aY p0=some r):Sc 305 [aX (M.aC.en p0)] [rB r]:=by
 have i1:=inv fun m s=>∃v3:Int,(s.t 1=vP 1 1 0∧s.t 3=vI v3∧s.h 1=(1,oX 148 (M.aC.en p0)))∧eP p0 m v3=some r
 have e1:=@eP.eq_2
 unfold aY at h
 exact sgo 53 [.tmp 2] Tryz.func305
instance:bP 305 (type_of% @aRP):=⟨@aRP⟩
theorem aSA (p0 p1 r) (h:sA p0 p1=some r):Sc 417 [aB p0,aB p1] [rI r]:=by
 unfold sA at h
 exact sgo 7 [.tmp 4] Tryz.func417
instance:bP 417 (type_of% @aSA):=⟨@aSA⟩
theorem aTC (p0 p1 r) (h:aV p0 p1=some r):Sc 306 [aX (M.Key.en p0),aX (M.Key.en p1)] [rI r]:=by
 unfold aV at h
 exact sgo 46 [.tmp 4] Tryz.func306
instance:bP 306 (type_of% @aTC):=⟨@aTC⟩
theorem aS4 (p0 r) (h:gF p0=some r):Sc 311 [aX (M.Key.en p0)] [rW 5 1 enB r]:=by
 have i1:=inv fun m s=>∃v4:Int,∃r12:List Int,∃u12:Nat,(s.t 1=vP 1 1 0∧s.t 3=vR 100012 u12∧s.t 4=vI v4∧s.h 1=(1,oX 225 (M.Key.en p0))∧s.h 100012=(u12,oW 5 1 enB r12))∧aU p0 m v4 r12=some r
 have e1:=@aU.eq_2
 unfold gF at h
 exact sgo 38 [.tmp 2] Tryz.func311
instance:bP 311 (type_of% @aS4):=⟨@aS4⟩
theorem aRA (p0 p1 r) (h:bD p0 p1=some r):Sc 273 [aL enB p0,aI p1] [rW 5 1 enB r]:=by
 have i1:=inv fun m s=>∃v1:Int,∃r6:List Int,∃u6:Nat,(s.t 1=vI v1∧s.t 5=vR 100006 u6∧s.h 100006=(u6,oW 5 1 enB r6))∧bT m v1 r6=some r
 have e1:=@bT.eq_2
 unfold bD at h
 exact sgo 29 [.tmp 4] Tryz.func273
instance:bP 273 (type_of% @aRA):=⟨@aRA⟩
theorem aRf (p0 p1 r) (h:bC p0 p1=some r):Sc 274 [aL enB p0,aL enB p1] [rW 5 1 enB r]:=by
 unfold bC at h
 exact sgo 11 [.tmp 4] Tryz.func274
instance:bP 274 (type_of% @aRf):=⟨@aRf⟩
theorem aRT (p0 p1 r) (h:yS p0 p1=some r):Sc 473 [aI p0,aI p1] [rI r]:=by
 unfold yS at h
 exact sgo 15 [.tmp 4] Tryz.func473
instance:bP 473 (type_of% @aRT):=⟨@aRT⟩
theorem aRi (p0 r) (h:xK p0=some r):Sc 401 [aL enI p0] [rI r]:=by
 have i1:=inv fun m s=>∃v3:Int,∃v4:Int,(s.t 0=vL enI p0∧s.t 3=vI v3∧s.t 4=vI v4)∧nT p0 m v3 v4=some r
 have e1:=@nT.eq_2
 unfold xK at h
 exact sgo 22 [.tmp 2] Tryz.func401
instance:bP 401 (type_of% @aRi):=⟨@aRi⟩
theorem aRg (p0 r) (h:mS p0=some r):Sc 486 [aL enB p0] [(true,M.Key.rs r.1),rB r.2]:=by
 have i1:=fun (x2:Int)=>inv fun m s=>∃v6:Int,∃v7:Int,(s.t 0=vL enB p0∧s.t 2=vP 2 1 0∧s.t 4=vP 4 1 0∧s.t 6=vI v6∧s.t 7=vI v7∧s.h 2=(1,oB 225 [cI 0,cI 0,cS (⟨#[]⟩:ByteArray)])∧s.h 4=(1,oB 225 [cI (IntKind.i64.wrap x2),cI 0,cS (⟨#[]⟩:ByteArray)]))∧gL p0 x2 m v6 v7=some r
 have e1:=@gL.eq_2
 unfold mS at h
 exact sgo 49 [.cell 2 225,.tmp 3] Tryz.func486
instance:bP 486 (type_of% @aRg):=⟨@aRg⟩
end Go.Proofs.YtidhkhdnjonjfaaGreat.gen
