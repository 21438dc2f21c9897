/-
  Helper text. No conditions.
-/
import Derived.Test.YtidhkhdnjonjfaaGreatBucketsTi
import Derived.Test.YtidhkhdnjonjfaaGreatBucketsWimpl0
import Derived.Test.YtidhkhdnjonjfaaGreatBucketsWimpl1
import Derived.Test.YtidhkhdnjonjfaaGreatBucketsWimpl2
import Derived.Test.YtidhkhdnjonjfaaGreatBucketsWimpl3
import Derived.Test.YtidhkhdnjonjfaaGreatBucketsWlib
set_option linter.unusedVariables false
set_option linter.unusedSimpArgs false
namespace Go.Proofs.YtidhkhdnjonjfaaGreat.gen
open Go Go.Sh
set_option maxRecDepth 20000
set_option maxHeartbeats 4000000
theorem c50 (p0 r) (h:nL p0=some r):Sc 50 [aX (M.Registration.en p0)] [rB r]:=by
 unfold nL at h
 simp only [EN]
 refine sgn 37 [.tmp 2] Tryz.func50 fun base wd => ?_
 refine sq (rn ?_)
 refine an (sq (rn ?_))
 refine an (sq (sq (rn ?_)))
 refine an (bk ?_)
 refine cu (fun s=>s.t 1=vP 1 1 0∧s.t 3=vI 0∧s.t 12=vR 100012 1∧s.t 13=vI ((3:Nat):Int)∧s.t 14=vI 0∧s.h 1=(1,oX 25 (M.Registration.en p0))∧s.h 100012=(1,oW 3 1 enI ([p0.Active,p0.Waiting,p0.Installing]))∧True) ?_
 rintro s1 ⟨f2,f3,f4,f5,f6,f7,f8,_⟩
 refine wH (fun m s=>∃v3:Int,∃v14:Int,s.t 1=vP 1 1 0∧s.t 3=vI v3∧s.t 12=vR 100012 1∧s.t 13=vI ((3:Nat):Int)∧s.t 14=vI v14∧s.h 1=(1,oX 25 (M.Registration.en p0))∧s.h 100012=(1,oW 3 1 enI ([p0.Active,p0.Waiting,p0.Installing]))∧cO p0 m v3 v14=some r) fuel ?_ ?_
 ·refine ⟨0,0,?_,?_,?_,?_,?_,?_,?_,h⟩
  all_goals simp +decide only [F,reduceIte,Nat.reduceAdd,qB,qC,EN, *,-h]
 rintro mL1 s9 ⟨v3,v14,f10,f11,f12,f13,f14,f15,f16,h⟩
 rcases mL1 with _ | mL1
 ·exact absurd h (by simp [cO])
 simp only [cO] at h
 refine sq (rn ?_)
 refine an (sq ?_)
 rcases wF (decide (v14<((3:Nat):Int))) with b17 | b17
 ·replace h:=bY b17 h
  refine cf (xt (wD (vT (aAi (an (sq ?_))))))
  obtain ⟨x28,h29,h⟩:=bind_some h
  refine rn1 (c49 _ _ h29) ?_
  refine an (rt ?_)
  cases h
  simp [Ret,TB,EN, *]
 replace h:=cD b17 h
 refine ct (sk (an (sq (bk (sq ?_)))))
 obtain ⟨x18,h19,h⟩:=bind_some h
 obtain ⟨q20,q21,q22⟩:=jG h19
 have q20m:=congrArg (Option.map enI) (show ([p0.Active,p0.Waiting,p0.Installing])[v14.toNat]? = some x18 by assumption)
 simp only [←List.getElem?_map,List.map_cons,List.map_nil,Option.map_some,EN] at q20m
 simp only [qJ,qK,Nat.reduceAdd] at q22
 refine rn ?_
 refine an (sq (sq ?_))
 obtain ⟨x23,h24,h⟩:=bind_some h
 rcases lN (!x23) with b25 | b25
 ·replace h:=cD b25 h
  refine rn1 (c54 _ _ _ _ h24) ?_
  refine an (ct (sq (rn ?_)))
  refine an (rt ?_)
  cases h
  simp [Ret,TB,EN, *]
 replace h:=bY b25 h
 rcases wF (x18 != 0) with b26 | b26
 ·replace h:=bY b26 h
  refine rn1 (c54 _ _ _ _ h24) ?_
  refine an (cf (sk (an (rn ?_))))
  refine ab (an (rn ?_))
  refine iB ⟨mL1,by omega,(if x18>v3 then x18 else v3),(IntKind.i64.wrap (v14+1)),?_,?_,?_,?_,?_,?_,?_,h⟩
  all_goals simp +decide only [F,reduceIte,Nat.reduceAdd,qB,qC,EN, *,-h]
 replace h:=cD b26 h
 refine rn1 (c54 _ _ _ _ h24) ?_
 refine an ?_
 rcases lN (decide (x18≤v3)) with b27 | b27
 ·replace h:=cD b27 h
  refine ct (sq (rn ?_))
  refine an (rt ?_)
  cases h
  simp [Ret,TB,EN, *]
 replace h:=bY b27 h
 refine cf (sk (an (rn ?_)))
 refine ab (an (rn ?_))
 refine iB ⟨mL1,by omega,(if x18>v3 then x18 else v3),(IntKind.i64.wrap (v14+1)),?_,?_,?_,?_,?_,?_,?_,h⟩
 all_goals simp +decide only [F,reduceIte,Nat.reduceAdd,qB,qC,EN, *,-h]
instance:bP 50 (type_of% @c50):=⟨@c50⟩
theorem c51 (p0 r) (h:oD p0=some r):Sc 51 [aX (M.aE.en p0)] [rB r]:=by
 have i1:=inv fun m s=>∃v10:Int,(s.t 1=vP 1 1 0∧s.t 8=vL M.Cache.en p0.Caches∧s.t 9=vI (List.length p0.Caches:Int)∧s.t 10=vI v10∧s.h 1=(1,oX 28 (M.aE.en p0)))∧dN p0 m v10=some r
 have e1:=@dN.eq_2
 have i2:=fun (v10:Int) (x8:M.Cache) (k25:Int→Option Bool) (s1:St)=>inv fun m s=>∃v44_L2:Int,(s.t 1=vP 1 1 0∧s.t 4=vP 4 ((s1.h 4).1+1) 0∧s.t 8=vL M.Cache.en p0.Caches∧s.t 9=vI (List.length p0.Caches:Int)∧s.t 10=vI v10∧s.t 42=vL M.Cached.en x8.Entries∧s.t 43=vI (List.length x8.Entries:Int)∧s.t 44=vI v44_L2∧s.h 1=(1,oX 28 (M.aE.en p0))∧s.h 4=(((s1.h 4).1+1),oX 212 (M.Cache.en x8)))∧dP x8 k25 m v44_L2=some r
 have e2:=@dP.eq_2
 have i3:=fun (v10:Int) (x8:M.Cache) (k57:Int→Option Bool) (s1:St)=>inv fun m s=>∃v44_L3:Int,(s.t 1=vP 1 1 0∧s.t 4=vP 4 ((s1.h 4).1+1) 0∧s.t 8=vL M.Cache.en p0.Caches∧s.t 9=vI (List.length p0.Caches:Int)∧s.t 10=vI v10∧s.t 42=vL M.Cached.en x8.Entries∧s.t 43=vI (List.length x8.Entries:Int)∧s.t 44=vI v44_L3∧s.h 1=(1,oX 28 (M.aE.en p0))∧s.h 4=(((s1.h 4).1+1),oX 212 (M.Cache.en x8)))∧dE x8 k57 m v44_L3=some r
 have e3:=@dE.eq_2
 unfold oD at h
 exact sgo 81 [.tmp 2] Tryz.func51
instance:bP 51 (type_of% @c51):=⟨@c51⟩
theorem aTT (p0 r) (h:oI p0=some r):Sc 289 [aX (M.aC.en p0)] [rB r]:=by
 have i1:=inv fun m s=>∃v8:Int,(s.t 1=vP 1 1 0∧s.t 6=vL M.Field.en p0.Fields∧s.t 7=vI (List.length p0.Fields:Int)∧s.t 8=vI v8∧s.h 1=(1,oX 148 (M.aC.en p0)))∧eR p0 m v8=some r
 have e1:=@eR.eq_2
 unfold oI at h
 exact sgo 44 [.tmp 2] Tryz.func289
instance:bP 289 (type_of% @aTT):=⟨@aTT⟩
theorem aSH (p0 r) (h:pY p0=some r):Sc 154 [aX (M.aA.en p0)] [rB r]:=by
 have i1:=inv fun m s=>∃v8:Int,(s.t 1=vP 1 1 0∧s.t 6=vL M.Item.en p0.Items∧s.t 7=vI (List.length p0.Items:Int)∧s.t 8=vI v8∧s.h 1=(1,oX 37 (M.aA.en p0)))∧fH p0 m v8=some r
 have e1:=@fH.eq_2
 unfold pY at h
 exact sgo 55 [.tmp 2] Tryz.func154
instance:bP 154 (type_of% @aSH):=⟨@aSH⟩
theorem aS9 (p0 p1 p2 r) (h:nF p0 p1 p2=some r):Sc 413 [aX (M.Item.en p0),aX (M.Item.en p1),aS p2] [rB r]:=by
 unfold nF at h
 exact sgo 41 [.tmp 6] Tryz.func413
instance:bP 413 (type_of% @aS9):=⟨@aS9⟩
theorem aRN (p0 p1 r) (h:sV p0 p1=some r):Sc 302 [aX (M.aA.en p0),aS p1] [rW 227 4 M.Item.en r]:=by
 have i1:=inv fun m s=>∃v15:Int,∃r11:List M.Item,∃u11:Nat,(s.t 1=vS p1∧s.t 5=vR 100011 u11∧s.t 13=vL M.Item.en p0.Items∧s.t 14=vI (List.length p0.Items:Int)∧s.t 15=vI v15∧s.h 100011=(u11,oW 227 4 M.Item.en r11))∧gX p0 p1 m v15 r11=some r
 have e1:=@gX.eq_2
 have i2:=fun (v15:Int) (r11:List M.Item) (x15:M.Item) (k24:Int→Option (List M.Item)) (s7:St) (u11:Nat)=>inv fun m s=>∃v10_L2:Int,(s.t 1=vS p1∧s.t 5=vR 100011 u11∧s.t 7=vP 7 ((s7.h 7).1+1) 0∧s.t 10=vI v10_L2∧s.t 13=vL M.Item.en p0.Items∧s.t 14=vI (List.length p0.Items:Int)∧s.t 15=vI v15∧s.h 7=(((s7.h 7).1+1),oX 227 (M.Item.en x15))∧s.h 100011=(u11,oW 227 4 M.Item.en r11))∧jS p1 r11 x15 k24 m v10_L2=some r
 have e2:=@jS.eq_2
 unfold sV at h
 exact sgo 52 [.tmp 4] Tryz.func302
instance:bP 302 (type_of% @aRN):=⟨@aRN⟩
theorem aTA (p0 r) (h:lD p0=some r):Sc 295 [aX (M.aT.en p0)] [rB r]:=by
 unfold lD at h
 exact sgo 26 [.tmp 2] Tryz.func295
instance:bP 295 (type_of% @aTA):=⟨@aTA⟩
theorem aRZ (p0 r) (h:oL p0=some r):Sc 150 [aX (M.aG.en p0)] [rB r]:=by
 have i1:=inv fun m s=>∃v12:Int,(s.t 1=vP 1 1 0∧s.t 3=vI (List.length p0.Writes:Int)∧s.t 10=vL M.aT.en p0.Writes∧s.t 11=vI (List.length p0.Writes:Int)∧s.t 12=vI v12∧s.h 1=(1,oX 40 (M.aG.en p0)))∧iK p0 m v12=some r
 have e1:=@iK.eq_2
 unfold oL at h
 exact sgo 51 [.tmp 2] Tryz.func150
instance:bP 150 (type_of% @aRZ):=⟨@aRZ⟩
theorem aSX (p0 r) (h:mG p0=some r):Sc 144 [aX (M.aC.en p0)] [rW 5 1 enB r]:=by
 have i1:=aBx [.t 3 7050000 5 1] fun m s=>∃v17:Int,∃r50000:List Int,∃u50000:Nat,(s.t 3=vR 7050000 u50000∧s.t 15=vL M.Field.en p0.Fields∧s.t 16=vI (List.length p0.Fields:Int)∧s.t 17=vI v17∧s.h 7050000=(u50000,oW 5 1 enB r50000))∧eO p0 m v17 r50000=some r
 have e1:=@eO.eq_2
 unfold mG at h
 exact sgo 31 [.tmp 2] Tryz.func144
instance:bP 144 (type_of% @aSX):=⟨@aSX⟩
theorem aTV (p0 r) (h:mM p0=some r):Sc 187 [aX (M.Database.en p0)] [(true,M.Database.rs r)]:=by
 have i1:=aBx [.b 3 2 7050000 37 3] fun m s=>∃v18:Int,∃r50000:List M.aA,∃u50000:Nat,(s.t 2=vP 2 1 0∧s.t 3=vP 3 1 0∧s.t 16=vL M.aA.en p0.Stores∧s.t 17=vI (List.length p0.Stores:Int)∧s.t 18=vI v18∧s.h 2=(1,aEy)∧s.h 3=(1,oB 32 [cS p0.Name,cI p0.Version,.row 7050000 u50000,.row 100010 2])∧s.h 100010=(2,oW 239 2 M.aH.en p0.Unique)∧s.h 7050000=(u50000,oW 37 3 M.aA.en r50000))∧eM p0 m v18 r50000=some r
 have e1:=@eM.eq_2
 unfold mM at h
 exact sgo 31 [.cell 2 32] Tryz.func187
instance:bP 187 (type_of% @aTV):=⟨@aTV⟩
theorem aSx (p0 r) (h:rK p0=some r):Sc 276 [aX (M.bF.en p0)] [(true,M.bF.rs r)]:=by
 unfold rK at h
 exact sgo 12 [.cell 2 34] Tryz.func276
instance:bP 276 (type_of% @aSx):=⟨@aSx⟩
theorem aTU (p0 r) (h:nI p0=some r):Sc 277 [aX (M.aD.en p0)] [(true,M.aD.rs r)]:=by
 unfold nI at h
 exact sgo 12 [.cell 2 44] Tryz.func277
instance:bP 277 (type_of% @aTU):=⟨@aTU⟩
theorem aQQ (p0 p1 r) (h:kJ p0 p1=some r):Sc 281 [aX (M.Cached.en p0),aX (M.Cached.en p1)] [rB r]:=by
 unfold kJ at h
 exact sgo 24 [.tmp 4] Tryz.func281
instance:bP 281 (type_of% @aQQ):=⟨@aQQ⟩
theorem aQM (p0 p1 r) (h:kS p0 p1=some r):Sc 136 [aX (M.Cache.en p0),aX (M.Cache.en p1)] [rB r]:=by
 unfold kS at h
 simp only [EN]
 refine sgn 17 [.tmp 4] Tryz.func136 fun base wd => ?_
 refine sq (rn ?_)
 refine an (sq ?_)
 rcases wF (p0.Version==p1.Version) with b1 | b1
 ·replace h:=bY b1 h
  refine rn ?_
  refine an (rt ?_)
  cases h
  simp [Ret,TB,EN, *]
 replace h:=cD b1 h
 obtain ⟨x2,h3,h⟩:=bind_some h
 refine rn1 (aQY p0.Entries p1.Entries (fun z0 z1=>kJ z0 z1) 281 [] (fun z0 z1 r hr=>aQQ z0 z1 r hr) x2 h3) ?_
 refine an (rt ?_)
 cases h
 simp [Ret,TB,EN, *]
instance:bP 136 (type_of% @aQM):=⟨@aQM⟩
theorem aPr (p0 p1 r) (h:fQ p0 p1=some r):Sc 139 [aX (M.aA.en p0),aX (M.aA.en p1)] [rB r]:=by
 unfold fQ at h
 simp only [EN]
 refine sgn 24 [.tmp 4] Tryz.func139 fun base wd => ?_
 refine sq (rn ?_)
 refine an (sq ?_)
 rcases wF (p0.Name.toList==p1.Name.toList) with b1 | b1
 ·replace h:=bY b1 h
  refine rn ?_
  refine an (rt ?_)
  cases h
  simp [Ret,TB,EN, *]
 replace h:=cD b1 h
 rcases wF (p0.Auto==p1.Auto) with b2 | b2
 ·replace h:=bY b2 h
  refine rn ?_
  refine an (rt ?_)
  cases h
  simp [Ret,TB,EN, *]
 replace h:=cD b2 h
 obtain ⟨x3,h4,h⟩:=bind_some h
 refine rn1 (aQy p0.Items p1.Items (fun z0 z1=>lY z0 z1) 286 [] (fun z0 z1 r hr=>aPz z0 z1 r hr) x3 h4) ?_
 refine an (rt ?_)
 cases h
 simp [Ret,TB,EN, *]
instance:bP 139 (type_of% @aPr):=⟨@aPr⟩
theorem aSq (p0 p1 r) (h:kF p0 p1=some r):Sc 137 [aX (M.Database.en p0),aX (M.Database.en p1)] [rB r]:=by
 unfold kF at h
 simp only [EN]
 refine sgn 31 [.tmp 4] Tryz.func137 fun base wd => ?_
 refine sq (rn ?_)
 refine an (sq ?_)
 rcases wF (p0.Name.toList==p1.Name.toList) with b1 | b1
 ·replace h:=bY b1 h
  refine rn ?_
  refine an (rt ?_)
  cases h
  simp [Ret,TB,EN, *]
 replace h:=cD b1 h
 rcases wF (p0.Version==p1.Version) with b2 | b2
 ·replace h:=bY b2 h
  refine rn ?_
  refine an (rt ?_)
  cases h
  simp [Ret,TB,EN, *]
 replace h:=cD b2 h
 obtain ⟨x3,h4,h⟩:=bind_some h
 rcases wF x3 with b5 | b5
 ·replace h:=bY b5 h
  refine rn1 (aPj p0.Stores p1.Stores (fun z0 z1=>fQ z0 z1) 139 [] (fun z0 z1 r hr=>aPr z0 z1 r hr) x3 h4) ?_
  refine an (rt ?_)
  cases h
  simp [Ret,TB,EN, *]
 replace h:=cD b5 h
 obtain ⟨x6,h7,h⟩:=bind_some h
 refine rn2 (aPj p0.Stores p1.Stores (fun z0 z1=>fQ z0 z1) 139 [] (fun z0 z1 r hr=>aPr z0 z1 r hr) x3 h4) (aP8 _ _ _ h7) ?_
 refine an (rt ?_)
 cases h
 simp [Ret,TB,EN, *]
instance:bP 137 (type_of% @aSq):=⟨@aSq⟩
theorem c40 (p0 p1 r) (h:lB p0 p1=some r):Sc 40 [aX (M.aD.en p0),aX (M.aD.en p1)] [rB r]:=by
 unfold lB at h
 exact sgo 24 [.tmp 4] Tryz.func40
instance:bP 40 (type_of% @c40):=⟨@c40⟩
end Go.Proofs.YtidhkhdnjonjfaaGreat.gen
