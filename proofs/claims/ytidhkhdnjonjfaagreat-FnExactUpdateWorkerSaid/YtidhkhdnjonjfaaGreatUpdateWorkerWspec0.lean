/-
  Helper text. No conditions.
-/
import Derived.Test.YtidhkhdnjonjfaaGreatUpdateWorkerTi
set_option linter.unusedVariables false
set_option linter.unusedSimpArgs false
namespace Go.Proofs.YtidhkhdnjonjfaaGreat.gen
open Go Go.Sh
set_option maxRecDepth 20000
set_option maxHeartbeats 4000000
theorem c70 (p0 p1 p2 r) (h:jN p0 p1 p2=some r):Sc 70 [aX (M.aC.en p0),aS p1,aS p2] [rI r]:=by
 have i1:=inv fun m s=>∃v7:Int,(s.t 1=vS p1∧s.t 2=vS p2∧s.t 3=vP 3 1 0∧s.t 7=vI v7∧s.h 3=(1,oX 85 (M.aC.en p0)))∧fZ p0 p1 p2 m v7=some r
 have e1:=@fZ.eq_2
 unfold jN at h
 exact sgo 34 [.tmp 6] Tryz.func70
instance:bA 70 (type_of% @c70):=⟨@c70⟩
theorem aXc (r) (h:tK=some r):Sc 202 [] [rW 9 1 enS r]:=by
 unfold tK at h
 exact sgo 2 [.tmp 0] Tryz.func202
instance:bA 202 (type_of% @aXc):=⟨@aXc⟩
theorem c94 (p0 r) (h:uQ p0=some r):Sc 94 [aS p0] [rI r]:=by
 have i1:=fun (x1:(List ByteArray))=>inv fun m s=>∃v4:Int,(s.t 0=vS p0∧s.t 3=vR 100005 1∧s.t 4=vI v4∧s.h 100005=(1,oW 9 1 enS x1))∧iB p0 x1 m v4=some r
 have e1:=@iB.eq_2
 unfold uQ at h
 exact sgo 19 [.tmp 2] Tryz.func94
instance:bA 94 (type_of% @c94):=⟨@c94⟩
theorem c60 (p0 p1 p2 r) (h:bF p0 p1 p2=some r):Sc 60 [aI p0,aI p1,aI p2] [rB r]:=by
 unfold bF at h
 exact sgo 15 [.tmp 6] Tryz.func60
instance:bA 60 (type_of% @c60):=⟨@c60⟩
theorem c55 (p0 r) (h:cP p0=some r):Sc 55 [aS p0] [rB r]:=by
 have i1:=inv fun m s=>∃v3:Int,(s.t 0=vS p0∧s.t 3=vI v3)∧kD p0 m v3=some r
 have e1:=@kD.eq_2
 unfold cP at h
 exact sgo 23 [.tmp 2] Tryz.func55
instance:bA 55 (type_of% @c55):=⟨@c55⟩
theorem aWD (p0 r) (h:vF p0=some r):Sc 203 [aX (M.Site.en p0)] [rB r]:=by
 have i1:=inv fun m s=>∃v3:Int,(s.t 1=vP 1 1 0∧s.t 3=vI v3∧s.h 1=(1,oX 180 (M.Site.en p0)))∧iM p0 m v3=some r
 have e1:=@iM.eq_2
 unfold vF at h
 exact sgo 50 [.tmp 2] Tryz.func203
instance:bA 203 (type_of% @aWD):=⟨@aWD⟩
theorem aXH (p0 r) (h:aAM p0=some r):Sc 416 [aS p0] [rB r]:=by
 have i1:=inv fun m s=>∃v3:Int,(s.t 0=vS p0∧s.t 3=vI v3)∧gW p0 m v3=some r
 have e1:=@gW.eq_2
 unfold aAM at h
 exact sgo 35 [.tmp 2] Tryz.func416
instance:bA 416 (type_of% @aXH):=⟨@aXH⟩
theorem aUZ (p0 r) (h:pO p0=some r):Sc 304 [aX (M.Key.en p0)] [rB r]:=by
 unfold pO at h
 exact sgo 36 [.tmp 2] Tryz.func304
instance:bA 304 (type_of% @aUZ):=⟨@aUZ⟩
theorem aXl (p0 r) (h:kB p0=some r):Sc 308 [aX (M.aW.en p0)] [rB r]:=by
 unfold kB at h
 exact sgo 26 [.tmp 2] Tryz.func308
instance:bA 308 (type_of% @aXl):=⟨@aXl⟩
theorem aUo (p0 r) (h:uO p0=some r):Sc 305 [aX (M.aU.en p0)] [rB r]:=by
 have i1:=inv fun m s=>∃v3:Int,(s.t 1=vP 1 1 0∧s.t 3=vI v3∧s.h 1=(1,oX 148 (M.aU.en p0)))∧gH p0 m v3=some r
 have e1:=@gH.eq_2
 unfold uO at h
 exact sgo 53 [.tmp 2] Tryz.func305
instance:bA 305 (type_of% @aUo):=⟨@aUo⟩
theorem aWF (p0 p1 r) (h:aAO p0 p1=some r):Sc 417 [aB p0,aB p1] [rI r]:=by
 unfold aAO at h
 exact sgo 7 [.tmp 4] Tryz.func417
instance:bA 417 (type_of% @aWF):=⟨@aWF⟩
theorem aXz (p0 p1 r) (h:mC p0 p1=some r):Sc 306 [aX (M.Key.en p0),aX (M.Key.en p1)] [rI r]:=by
 unfold mC at h
 exact sgo 46 [.tmp 4] Tryz.func306
instance:bA 306 (type_of% @aXz):=⟨@aXz⟩
theorem aXp (p0 r) (h:sJ p0=some r):Sc 159 [aX (M.aJ.en p0)] [rB r]:=by
 have i1:=inv fun m s=>∃v3:Int,(s.t 1=vP 1 1 0∧s.t 3=vI v3∧s.h 1=(1,oX 37 (M.aJ.en p0)))∧hM p0 m v3=some r
 have e1:=@hM.eq_2
 unfold sJ at h
 exact sgo 64 [.tmp 2] Tryz.func159
instance:bA 159 (type_of% @aXp):=⟨@aXp⟩
theorem aUq (p0 r) (h:aAD p0=some r):Sc 204 [aX (M.Server.en p0)] [rB r]:=by
 have i1:=inv fun m s=>∃v3:Int,(s.t 1=vP 1 1 0∧s.t 3=vI v3∧s.h 1=(1,oX 274 (M.Server.en p0)))∧gJ p0 m v3=some r
 have e1:=@gJ.eq_2
 have i2:=inv fun m s=>∃v4:Int,(s.t 1=vP 1 1 0∧s.t 4=vI v4∧s.h 1=(1,oX 274 (M.Server.en p0)))∧iE p0 m v4=some r
 have e2:=@iE.eq_2
 unfold aAD at h
 exact sgo 79 [.tmp 2] Tryz.func204
instance:bA 204 (type_of% @aUq):=⟨@aUq⟩
theorem aV1 (p0 r) (h:aCP p0=some r):Sc 205 [aX (M.bJ.en p0)] [rB r]:=by
 have i1:=inv fun m s=>∃v3:Int,(s.t 1=vP 1 1 0∧s.t 3=vI v3∧s.h 1=(1,oX 103 (M.bJ.en p0)))∧mI p0 m v3=some r
 have e1:=@mI.eq_2
 unfold aCP at h
 exact sgo 54 [.tmp 2] Tryz.func205
instance:bA 205 (type_of% @aV1):=⟨@aV1⟩
theorem c56 (p0 r) (h:cT p0=some r):Sc 56 [aX (M.Registration.en p0)] [rB r]:=by
 unfold cT at h
 simp only [EN]
 refine sgn 52 [.tmp 2] Tryz.func56 fun base wd => ?_
 refine sq (rn ?_)
 refine an (sq (rn ?_))
 refine an (sq (rn ?_))
 refine an (sq (sq ?_))
 refine cu (fun s=>s.t 1=vP 1 1 0∧s.t 3=vI 0∧s.t 4=vR 100012 1∧s.h 1=(1,oX 25 (M.Registration.en p0))∧s.h 100012=(1,oW 3 1 enI ([p0.Active,p0.Waiting,p0.Installing]))∧True) ?_
 rintro s1 ⟨f2,f3,f4,f5,f6,_⟩
 refine rn ?_
 refine an (bk ?_)
 refine aC9 (fun m s=>∃v3:Int,∃v5:Int,s.t 1=vP 1 1 0∧s.t 3=vI v3∧s.t 4=vR 100012 1∧s.t 5=vI v5∧s.h 1=(1,oX 25 (M.Registration.en p0))∧s.h 100012=(1,oW 3 1 enI ([p0.Active,p0.Waiting,p0.Installing]))∧bL p0 m v3 v5=some r) fuel ?_ ?_
 ·refine ⟨0,0,?_,?_,?_,?_,?_,?_,h⟩
  all_goals simp +decide only [F,reduceIte,Nat.reduceAdd,qB,qC,EN, *,-h]
 rintro mL1 s7 ⟨v3,v5,f8,f9,f10,f11,f12,f13,h⟩
 rcases mL1 with _ | mL1
 ·exact absurd h (by simp [bL])
 simp only [bL] at h
 refine sq (sq (rn ?_))
 refine an ?_
 rcases aEL (decide (v5<((3:Nat):Int))) with b14 | b14
 ·replace h:=bR b14 h
  refine cf (xt (aE2 (aEo (aIs (an (sq ?_))))))
  obtain ⟨x25,h26,h⟩:=bind_some h
  refine rn1 (c55 _ _ h26) ?_
  refine an (rt ?_)
  cases h
  simp [Ret,TB,EN, *]
 replace h:=bT b14 h
 refine ct (sk (an (sq (bk (sq (sq ?_))))))
 obtain ⟨x15,h16,h⟩:=bind_some h
 obtain ⟨q17,q18,q19⟩:=aT h16
 have q17m:=congrArg (Option.map enI) (show ([p0.Active,p0.Waiting,p0.Installing])[v5.toNat]? = some x15 by assumption)
 simp only [←List.getElem?_map,List.map_cons,List.map_nil,Option.map_some,EN] at q17m
 simp only [qJ,qK,Nat.reduceAdd] at q19
 obtain ⟨x20,h21,h⟩:=bind_some h
 rcases gO (!x20) with b22 | b22
 ·replace h:=bT b22 h
  refine rn1 (c60 _ _ _ _ h21) ?_
  refine an (ct (sq (rn ?_)))
  refine an (rt ?_)
  cases h
  simp [Ret,TB,EN, *]
 replace h:=bR b22 h
 rcases aEL (x15 != 0) with b23 | b23
 ·replace h:=bR b23 h
  refine rn1 (c60 _ _ _ _ h21) ?_
  refine an (cf (sk (an (sq (rn ?_)))))
  refine an (cf (sk (ab (an (rn ?_)))))
  refine aHA ⟨mL1,by omega,v3,(IntKind.i64.wrap (v5+1)),?_,?_,?_,?_,?_,?_,h⟩
  all_goals simp +decide only [F,reduceIte,Nat.reduceAdd,qB,qC,EN, *,-h]
 replace h:=bT b23 h
 refine rn1 (c60 _ _ _ _ h21) ?_
 refine an ?_
 rcases gO (decide (x15≤v3)) with b24 | b24
 ·replace h:=bT b24 h
  refine ct (sq (rn ?_))
  refine an (rt ?_)
  cases h
  simp [Ret,TB,EN, *]
 replace h:=bR b24 h
 refine cf (sk (an (sq (rn ?_))))
 refine an (ct (rn ?_))
 refine ab (an (rn ?_))
 refine aHA ⟨mL1,by omega,x15,(IntKind.i64.wrap (v5+1)),?_,?_,?_,?_,?_,?_,h⟩
 all_goals simp +decide only [F,reduceIte,Nat.reduceAdd,qB,qC,EN, *,-h]
instance:bA 56 (type_of% @c56):=⟨@c56⟩
theorem aWG (p0 r) (h:tY p0=some r):Sc 303 [aX (M.Response.en p0)] [rB r]:=by
 unfold tY at h
 exact sgo 22 [.tmp 2] Tryz.func303
instance:bA 303 (type_of% @aWG):=⟨@aWG⟩
theorem aVz (p0 r) (h:nL p0=some r):Sc 158 [aL M.Cached.en p0] [rB r]:=by
 have i1:=inv fun m s=>∃v3:Int,(s.t 0=vL M.Cached.en p0∧s.t 3=vI v3)∧eO p0 m v3=some r
 have e1:=@eO.eq_2
 have i2:=fun (v3:Int) (x5:M.Cached) (k20:Int→Option Bool)=>inv fun m s=>∃v4_L2:Int,(s.t 0=vL M.Cached.en p0∧s.t 3=vI v3∧s.t 4=vI v4_L2)∧fY p0 v3 x5 k20 m v4_L2=some r
 have e2:=@fY.eq_2
 unfold nL at h
 exact sgo 68 [.tmp 2] Tryz.func158
instance:bA 158 (type_of% @aVz):=⟨@aVz⟩
theorem c57 (p0 r) (h:bY p0=some r):Sc 57 [aX (M.aA.en p0)] [rB r]:=by
 have i1:=inv fun m s=>∃v3:Int,(s.t 1=vP 1 1 0∧s.t 3=vI v3∧s.h 1=(1,oX 28 (M.aA.en p0)))∧eL p0 m v3=some r
 have e1:=@eL.eq_2
 unfold bY at h
 exact sgo 53 [.tmp 2] Tryz.func57
instance:bA 57 (type_of% @c57):=⟨@c57⟩
theorem aUy (p0 p1 r) (h:wB p0 p1=some r):Sc 160 [aX (M.Database.en p0),aS p1] [rI r]:=by
 have i1:=inv fun m s=>∃v5:Int,(s.t 1=vS p1∧s.t 2=vP 2 1 0∧s.t 5=vI v5∧s.h 2=(1,oX 32 (M.Database.en p0)))∧iZ p0 p1 m v5=some r
 have e1:=@iZ.eq_2
 unfold wB at h
 exact sgo 22 [.tmp 4] Tryz.func160
instance:bA 160 (type_of% @aUy):=⟨@aUy⟩
theorem c72 (p0 p1 r) (h:lJ p0 p1=some r):Sc 72 [aX (M.aU.en p0),aS p1] [rI r.1,rB r.2]:=by
 have i1:=inv fun m s=>∃v6:Int,(s.t 1=vS p1∧s.t 2=vP 2 1 0∧s.t 6=vI v6∧s.h 2=(1,oX 148 (M.aU.en p0)))∧lZ p0 p1 m v6=some r
 have e1:=@lZ.eq_2
 unfold lJ at h
 exact sgo 28 [.tmp 4,.tmp 5] Tryz.func72
instance:bA 72 (type_of% @c72):=⟨@c72⟩
theorem aUM (p0 p1 p2 r) (h:aCO p0 p1 p2=some r):Sc 418 [aX (M.Item.en p0),aX (M.Item.en p1),aS p2] [rB r]:=by
 unfold aCO at h
 exact sgo 41 [.tmp 6] Tryz.func418
instance:bA 418 (type_of% @aUM):=⟨@aUM⟩
theorem aV2 (p0 r) (h:aBw p0=some r):Sc 177 [aX (M.aU.en p0)] [(true,M.aU.rs r)]:=by
 unfold aBw at h
 exact sgo 8 [.cell 2 148] Tryz.func177
instance:bA 177 (type_of% @aV2):=⟨@aV2⟩
theorem aV7 (p0 r) (h:aAQ p0=some r):Sc 405 [aX (M.Item.en p0)] [(true,M.Item.rs r)]:=by
 unfold aAQ at h
 exact sgo 9 [.cell 2 227] Tryz.func405
instance:bA 405 (type_of% @aV7):=⟨@aV7⟩
theorem aU6 (p0 p1 r) (h:aA4 p0 p1=some r):Sc 307 [aX (M.aJ.en p0),aS p1] [rW 227 4 M.Item.en r]:=by
 have i1:=aLA [.t 5 7050000 227 4] fun m s=>∃v6:Int,∃r50000:List M.Item,∃u50000:Nat,(s.t 1=vS p1∧s.t 2=vP 2 1 0∧s.t 5=vR 7050000 u50000∧s.t 6=vI v6∧s.h 2=(1,oX 37 (M.aJ.en p0))∧s.h 7050000=(u50000,oW 227 4 M.Item.en r50000))∧jF p0 p1 m v6 r50000=some r
 have e1:=@jF.eq_2
 have i2:=fun (v6:Int) (r50000:List M.Item) (x15:M.Item) (k24:Int→Option (List M.Item)) (u50000:Nat)=>inv fun m s=>∃v9_L2:Int,(s.t 1=vS p1∧s.t 2=vP 2 1 0∧s.t 5=vR 7050000 u50000∧s.t 6=vI v6∧s.t 9=vI v9_L2∧s.h 2=(1,oX 37 (M.aJ.en p0))∧s.h 7050000=(u50000,oW 227 4 M.Item.en r50000))∧kI p1 r50000 x15 k24 m v9_L2=some r
 have e2:=@kI.eq_2
 unfold aA4 at h
 exact sgo 72 [.tmp 4] Tryz.func307
instance:bA 307 (type_of% @aU6):=⟨@aU6⟩
theorem aUH (p0 p1 r) (h:pT p0 p1=some r):Sc 161 [aX (M.aJ.en p0),aS p1] [(true,M.Key.rs r.1),(true,M.Key.rs r.2.1),rB r.2.2]:=by
 have i1:=fun (x1:(List M.Item))=>inv fun m s=>∃v8:Int,(s.t 1=vS p1∧s.t 4=vP 4 1 0∧s.t 5=vP 5 1 0∧s.t 7=vR 100015 1∧s.t 8=vI v8∧s.h 4=(1,oB 225 [cI 0,cI 0,cS (⟨#[]⟩:ByteArray)])∧s.h 5=(1,oB 225 [cI 0,cI 0,cS (⟨#[]⟩:ByteArray)])∧s.h 100015=(1,oW 227 4 M.Item.en x1))∧jL p1 x1 m v8=some r
 have e1:=@jL.eq_2
 unfold pT at h
 exact sgo 59 [.cell 4 225,.cell 5 225,.tmp 6] Tryz.func161
instance:bA 161 (type_of% @aUH):=⟨@aUH⟩
theorem c58 (p0 r) (h:tE p0=some r):Sc 58 [aX (M.Database.en p0)] [rB r]:=by
 have i1:=inv fun m s=>∃v3:Int,(s.t 1=vP 1 1 0∧s.t 3=vI v3∧s.h 1=(1,oX 32 (M.Database.en p0)))∧eR p0 m v3=some r
 have e1:=@eR.eq_2
 have i2:=inv fun m s=>∃v4:Int,(s.t 1=vP 1 1 0∧s.t 4=vI v4∧s.h 1=(1,oX 32 (M.Database.en p0)))∧eS p0 m v4=some r
 have e2:=@eS.eq_2
 have i3:=fun (v4:Int) (x26:M.aD) (k46:Int→Option Bool)=>inv fun m s=>∃v9_L3:Int,(s.t 1=vP 1 1 0∧s.t 4=vI v4∧s.t 9=vI v9_L3∧s.h 1=(1,oX 32 (M.Database.en p0)))∧fX p0 v4 x26 k46 m v9_L3=some r
 have e3:=@fX.eq_2
 unfold tE at h
 exact sgo 124 [.tmp 2] Tryz.func58
instance:bA 58 (type_of% @c58):=⟨@c58⟩
theorem aXA (p0 r) (h:aAA p0=some r):Sc 162 [aX (M.aV.en p0)] [rB r]:=by
 have i1:=inv fun m s=>∃v4:Int,(s.t 1=vP 1 1 0∧s.t 3=vI (List.length p0.Writes:Int)∧s.t 4=vI v4∧s.h 1=(1,oX 40 (M.aV.en p0)))∧jS p0 m v4=some r
 have e1:=@jS.eq_2
 unfold aAA at h
 exact sgo 60 [.tmp 2] Tryz.func162
instance:bA 162 (type_of% @aXA):=⟨@aXA⟩
theorem c59 (p0 r) (h:wK p0=some r):Sc 59 [aX (M.aE.en p0)] [rB r]:=by
 unfold wK at h
 exact sgo 23 [.tmp 2] Tryz.func59
instance:bA 59 (type_of% @c59):=⟨@c59⟩
theorem aYi (p0 p1 r) (h:tN p0 p1=some r):Sc 309 [aX (M.Response.en p0),aB p1] [rI r]:=by
 unfold tN at h
 exact sgo 10 [.tmp 4] Tryz.func309
instance:bA 309 (type_of% @aYi):=⟨@aYi⟩
theorem aVg (p0 r) (h:tD p0=some r):Sc 163 [aX (M.aA.en p0)] [rI r]:=by
 have i1:=inv fun m s=>∃v3:Int,∃v4:Int,(s.t 1=vP 1 1 0∧s.t 3=vI v3∧s.t 4=vI v4∧s.h 1=(1,oX 28 (M.aA.en p0)))∧eH p0 m v3 v4=some r
 have e1:=@eH.eq_2
 have i2:=fun (v4:Int) (k8:Int→Int→Option Int)=>inv fun m s=>∃v3_L2:Int,∃v5_L2:Int,(s.t 1=vP 1 1 0∧s.t 3=vI v3_L2∧s.t 4=vI v4∧s.t 5=vI v5_L2∧s.h 1=(1,oX 28 (M.aA.en p0)))∧iA p0 v4 k8 m v3_L2 v5_L2=some r
 have e2:=@iA.eq_2
 unfold tD at h
 exact sgo 43 [.tmp 2] Tryz.func163
instance:bA 163 (type_of% @aVg):=⟨@aVg⟩
theorem aXq (p0 r) (h:wG p0=some r):Sc 311 [aX (M.Key.en p0)] [rW 5 1 enB r]:=by
 have i1:=inv fun m s=>∃v4:Int,∃r12:List Int,∃u12:Nat,(s.t 1=vP 1 1 0∧s.t 3=vR 100012 u12∧s.t 4=vI v4∧s.h 1=(1,oX 225 (M.Key.en p0))∧s.h 100012=(u12,oW 5 1 enB r12))∧dB p0 m v4 r12=some r
 have e1:=@dB.eq_2
 unfold wG at h
 exact sgo 38 [.tmp 2] Tryz.func311
instance:bA 311 (type_of% @aXq):=⟨@aXq⟩
theorem aUO (p0 p1 r) (h:iC p0 p1=some r):Sc 273 [aL enB p0,aI p1] [rW 5 1 enB r]:=by
 have i1:=inv fun m s=>∃v1:Int,∃r6:List Int,∃u6:Nat,(s.t 1=vI v1∧s.t 5=vR 100006 u6∧s.h 100006=(u6,oW 5 1 enB r6))∧fT m v1 r6=some r
 have e1:=@fT.eq_2
 unfold iC at h
 exact sgo 29 [.tmp 4] Tryz.func273
instance:bA 273 (type_of% @aUO):=⟨@aUO⟩
theorem aVO (p0 p1 r) (h:pS p0 p1=some r):Sc 274 [aL enB p0,aL enB p1] [rW 5 1 enB r]:=by
 unfold pS at h
 exact sgo 11 [.tmp 4] Tryz.func274
instance:bA 274 (type_of% @aVO):=⟨@aVO⟩
theorem aWr (p0 r) (h:oN p0=some r):Sc 312 [aX (M.aU.en p0)] [rW 5 1 enB r]:=by
 have i1:=aLA [.t 3 7050000 5 1] fun m s=>∃v4:Int,∃r50000:List Int,∃u50000:Nat,(s.t 1=vP 1 1 0∧s.t 3=vR 7050000 u50000∧s.t 4=vI v4∧s.h 1=(1,oX 148 (M.aU.en p0))∧s.h 7050000=(u50000,oW 5 1 enB r50000))∧gE p0 m v4 r50000=some r
 have e1:=@gE.eq_2
 unfold oN at h
 exact sgo 38 [.tmp 2] Tryz.func312
instance:bA 312 (type_of% @aWr):=⟨@aWr⟩
theorem aX5 (p0 r) (h:pI p0=some r):Sc 165 [aX (M.aJ.en p0)] [rI r]:=by
 have i1:=inv fun m s=>∃v3:Int,∃v4:Int,(s.t 1=vP 1 1 0∧s.t 3=vI v3∧s.t 4=vI v4∧s.h 1=(1,oX 37 (M.aJ.en p0)))∧iS p0 m v3 v4=some r
 have e1:=@iS.eq_2
 unfold pI at h
 exact sgo 32 [.tmp 2] Tryz.func165
instance:bA 165 (type_of% @aX5):=⟨@aX5⟩
theorem aYD (p0 r) (h:oL p0=some r):Sc 310 [aX (M.Database.en p0)] [rI r]:=by
 have i1:=inv fun m s=>∃v3:Int,∃v4:Int,(s.t 1=vP 1 1 0∧s.t 3=vI v3∧s.t 4=vI v4∧s.h 1=(1,oX 32 (M.Database.en p0)))∧gD p0 m v3 v4=some r
 have e1:=@gD.eq_2
 unfold oL at h
 exact sgo 21 [.tmp 2] Tryz.func310
instance:bA 310 (type_of% @aYD):=⟨@aYD⟩
theorem aVu (p0 r) (h:aCE p0=some r):Sc 164 [aX (M.bB.en p0)] [rI r]:=by
 unfold aCE at h
 exact sgo 10 [.tmp 2] Tryz.func164
instance:bA 164 (type_of% @aVu):=⟨@aVu⟩
theorem c61 (p0 r) (h:aBH p0=some r):Sc 61 [aX (M.Bucket.en p0)] [rI r]:=by
 unfold aBH at h
 exact sgo 23 [.tmp 2] Tryz.func61
instance:bA 61 (type_of% @c61):=⟨@c61⟩
theorem c18 (p0 r) (h:lK p0=some r):Sc 18 [aX (M.Bucket.en p0)] [rB r]:=by
 unfold lK at h
 exact sgo 50 [.tmp 2] Tryz.func18
instance:bA 18 (type_of% @c18):=⟨@c18⟩
theorem aU1 (p0 p1 p2 r) (h:xY p0 p1 p2=some r):Sc 353 [aX (M.Bucket.en p0),aS p1,aS p2] [rB r]:=by
 unfold xY at h
 exact sgo 23 [.tmp 6] Tryz.func353
instance:bA 353 (type_of% @aU1):=⟨@aU1⟩
theorem aYd (p0 r) (h:bZ p0=some r):Sc 206 [aX (M.aC.en p0)] [rB r]:=by
 have i1:=inv fun m s=>∃v3:Int,(s.t 1=vP 1 1 0∧s.t 3=vI v3∧s.h 1=(1,oX 85 (M.aC.en p0)))∧fS p0 m v3=some r
 have e1:=@fS.eq_2
 unfold bZ at h
 exact sgo 48 [.tmp 2] Tryz.func206
instance:bA 206 (type_of% @aYd):=⟨@aYd⟩
theorem aWh (p0 r) (h:sU p0=some r):Sc 354 [aS p0] [rB r]:=by
 have i1:=inv fun m s=>∃v3:Int,(s.t 0=vS p0∧s.t 3=vI v3)∧dJ p0 m v3=some r
 have e1:=@dJ.eq_2
 unfold sU at h
 exact sgo 29 [.tmp 2] Tryz.func354
instance:bA 354 (type_of% @aWh):=⟨@aWh⟩
theorem aUT (p0 r) (h:rZ p0=some r):Sc 207 [aX (M.aP.en p0)] [rB r]:=by
 have i1:=inv fun m s=>∃v3:Int,(s.t 1=vP 1 1 0∧s.t 3=vI v3∧s.h 1=(1,oX 89 (M.aP.en p0)))∧fG p0 m v3=some r
 have e1:=@fG.eq_2
 have i2:=fun (v3:Int) (x6:M.dA) (k18:Int→Option Bool) (s1:St)=>inv fun m s=>∃v5_L2:Int,(s.t 1=vP 1 1 0∧s.t 3=vI v3∧s.t 4=vP 4 ((s1.h 4).1+1) 0∧s.t 5=vI v5_L2∧s.h 1=(1,oX 89 (M.aP.en p0))∧s.h 4=(((s1.h 4).1+1),oX 396 (M.dA.en x6)))∧cF p0 v3 x6 k18 m v5_L2=some r
 have e2:=@cF.eq_2
 unfold rZ at h
 exact sgo 67 [.tmp 2] Tryz.func207
instance:bA 207 (type_of% @aUT):=⟨@aUT⟩
theorem c95 (p0 r) (h:yB p0=some r):Sc 95 [aX (M.World.en p0)] [rB r]:=by
 have i1:=inv fun m s=>∃v3:Int,(s.t 1=vP 1 1 0∧s.t 3=vI v3∧s.h 1=(1,oX 96 (M.World.en p0)))∧jH p0 m v3=some r
 have e1:=@jH.eq_2
 have i2:=inv fun m s=>∃v4:Int,(s.t 1=vP 1 1 0∧s.t 4=vI v4∧s.h 1=(1,oX 96 (M.World.en p0)))∧dO p0 m v4=some r
 have e2:=@dO.eq_2
 unfold yB at h
 exact sgo 126 [.tmp 2] Tryz.func95
instance:bA 95 (type_of% @c95):=⟨@c95⟩
theorem aTF (p0 r) (h:yA p0=some r):Sc 294 [aX (M.Response.en p0)] [(true,M.Response.rs r)]:=by
 unfold yA at h
 exact sgo 11 [.cell 2 219] Tryz.func294
instance:bA 294 (type_of% @aTF):=⟨@aTF⟩
theorem aXE (p0 r) (h:zP p0=some r):Sc 149 [aX (M.Cache.en p0)] [(true,M.Cache.rs r)]:=by
 have i1:=aLA [.b 3 1 7050000 221 7] fun m s=>∃v4:Int,∃r50000:List M.Cached,∃u50000:Nat,(s.t 1=vP 1 1 0∧s.t 2=vP 2 1 0∧s.t 3=vP 3 1 0∧s.t 4=vI v4∧s.h 1=(1,oX 212 (M.Cache.en p0))∧s.h 2=(1,oB 212 [cI 0,.nil])∧s.h 3=(1,oB 212 [cI p0.Version,.row 7050000 u50000])∧s.h 7050000=(u50000,oW 221 7 M.Cached.en r50000))∧jR p0 m v4 r50000=some r
 have e1:=@jR.eq_2
 unfold zP at h
 exact sgo 36 [.cell 2 212] Tryz.func149
instance:bA 149 (type_of% @aXE):=⟨@aXE⟩
theorem c47 (p0 r) (h:bH p0=some r):Sc 47 [aX (M.aA.en p0)] [(true,M.aA.rs r)]:=by
 have i1:=aLA [.b 3 0 7050000 212 2] fun m s=>∃v4:Int,∃r50000:List M.Cache,∃u50000:Nat,(s.t 1=vP 1 1 0∧s.t 2=vP 2 1 0∧s.t 3=vP 3 1 0∧s.t 4=vI v4∧s.h 1=(1,oX 28 (M.aA.en p0))∧s.h 2=(1,oB 28 [.nil])∧s.h 3=(1,oB 28 [.row 7050000 u50000])∧s.h 7050000=(u50000,oW 212 2 M.Cache.en r50000))∧lA p0 m v4 r50000=some r
 have e1:=@lA.eq_2
 unfold bH at h
 exact sgo 25 [.cell 2 28] Tryz.func47
instance:bA 47 (type_of% @c47):=⟨@c47⟩
theorem aVs (p0 r) (h:vA p0=some r):Sc 278 [aX (M.aJ.en p0)] [(true,M.aJ.rs r)]:=by
 have i1:=aLA [.b 3 1 7050000 227 4] fun m s=>∃v4:Int,∃r50000:List M.Item,∃u50000:Nat,(s.t 1=vP 1 1 0∧s.t 2=vP 2 1 0∧s.t 3=vP 3 1 0∧s.t 4=vI v4∧s.h 1=(1,oX 37 (M.aJ.en p0))∧s.h 2=(1,oB 37 [cS (⟨#[]⟩:ByteArray),.nil,cI 0])∧s.h 3=(1,oB 37 [cS p0.Name,.row 7050000 u50000,cI p0.Auto])∧s.h 7050000=(u50000,oW 227 4 M.Item.en r50000))∧mL p0 m v4 r50000=some r
 have e1:=@mL.eq_2
 unfold vA at h
 exact sgo 29 [.cell 2 37] Tryz.func278
instance:bA 278 (type_of% @aVs):=⟨@aVs⟩
theorem aXJ (p0 r) (h:aBo p0=some r):Sc 134 [aX (M.Database.en p0)] [(true,M.Database.rs r)]:=by
 have i1:=aLA [.b 3 2 7050000 37 3] fun m s=>∃v4:Int,∃r50000:List M.aJ,∃u50000:Nat,(s.t 1=vP 1 1 0∧s.t 2=vP 2 1 0∧s.t 3=vP 3 1 0∧s.t 4=vI v4∧s.h 1=(1,oX 32 (M.Database.en p0))∧s.h 2=(1,aTX)∧s.h 3=(1,oB 32 [cS p0.Name,cI p0.Version,.row 7050000 u50000,.row 100009 2])∧s.h 100009=(2,oW 239 2 M.aD.en p0.Unique)∧s.h 7050000=(u50000,oW 37 3 M.aJ.en r50000))∧mP p0 m v4 r50000=some r
 have e1:=@mP.eq_2
 unfold aBo at h
 exact sgo 33 [.cell 2 32] Tryz.func134
instance:bA 134 (type_of% @aXJ):=⟨@aXJ⟩
theorem c36 (p0 r) (h:aAh p0=some r):Sc 36 [aX (M.bB.en p0)] [(true,M.bB.rs r)]:=by
 unfold aAh at h
 exact sgo 13 [.cell 2 34] Tryz.func36
instance:bA 36 (type_of% @c36):=⟨@c36⟩
theorem aU0 (p0 r) (h:aBD p0=some r):Sc 406 [aX (M.aV.en p0)] [(true,M.aV.rs r)]:=by
 unfold aBD at h
 exact sgo 11 [.cell 2 40] Tryz.func406
instance:bA 406 (type_of% @aU0):=⟨@aU0⟩
theorem aXD (p0 r) (h:aAp p0=some r):Sc 279 [aX (M.Sync.en p0)] [(true,M.Sync.rs r)]:=by
 unfold aAp at h
 exact sgo 10 [.cell 2 42] Tryz.func279
instance:bA 279 (type_of% @aXD):=⟨@aXD⟩
theorem aX0 (p0 r) (h:aBJ p0=some r):Sc 133 [aX (M.aE.en p0)] [(true,M.aE.rs r)]:=by
 unfold aBJ at h
 exact sgo 12 [.cell 2 44] Tryz.func133
instance:bA 133 (type_of% @aX0):=⟨@aX0⟩
theorem c35 (p0 r) (h:gV p0=some r):Sc 35 [aX (M.Bucket.en p0)] [(true,M.Bucket.rs r)]:=by
 unfold gV at h
 exact sgo 18 [.cell 2 46] Tryz.func35
instance:bA 35 (type_of% @c35):=⟨@c35⟩
theorem aVt (p0 r) (h:fD p0=some r):Sc 208 [aX (M.aC.en p0)] [(true,M.aC.rs r)]:=by
 have i1:=aLA [.b 3 0 7050000 46 24] fun m s=>∃v4:Int,∃r50000:List M.Bucket,∃u50000:Nat,(s.t 1=vP 1 1 0∧s.t 2=vP 2 1 0∧s.t 3=vP 3 1 0∧s.t 4=vI v4∧s.h 1=(1,oX 85 (M.aC.en p0))∧s.h 2=(1,oB 85 [.nil])∧s.h 3=(1,oB 85 [.row 7050000 u50000])∧s.h 7050000=(u50000,oW 46 24 M.Bucket.en r50000))∧kK p0 m v4 r50000=some r
 have e1:=@kK.eq_2
 unfold fD at h
 exact sgo 25 [.cell 2 85] Tryz.func208
instance:bA 208 (type_of% @aVt):=⟨@aVt⟩
theorem aWO (p0 r) (h:wT p0=some r):Sc 449 [aL M.Instr.en p0] [rW 406 4 M.Instr.en r]:=by
 unfold wT at h
 exact sgo 6 [.tmp 2] Tryz.func449
instance:bA 449 (type_of% @aWO):=⟨@aWO⟩
theorem aXs (p0 r) (h:aA3 p0=some r):Sc 355 [aX (M.Machine.en p0)] [(true,M.Machine.rs r)]:=by
 unfold aA3 at h
 exact sgo 15 [.cell 2 101] Tryz.func355
instance:bA 355 (type_of% @aXs):=⟨@aXs⟩
theorem aYV (p0 r) (h:aAr p0=some r):Sc 209 [aX (M.bJ.en p0)] [(true,M.bJ.rs r)]:=by
 unfold aAr at h
 exact sgo 15 [.cell 2 103] Tryz.func209
instance:bA 209 (type_of% @aYV):=⟨@aYV⟩
theorem aVp (p0 r) (h:yE p0=some r):Sc 210 [aX (M.aP.en p0)] [(true,M.aP.rs r)]:=by
 unfold yE at h
 exact sgo 8 [.cell 2 89] Tryz.func210
instance:bA 210 (type_of% @aVp):=⟨@aVp⟩
theorem aWE (p0 r) (h:yD p0=some r):Sc 211 [aX (M.Channel.en p0)] [(true,M.Channel.rs r)]:=by
 unfold yD at h
 exact sgo 8 [.cell 2 92] Tryz.func211
instance:bA 211 (type_of% @aWE):=⟨@aWE⟩
theorem aVH (p0 r) (h:aA5 p0=some r):Sc 212 [aX (M.Site.en p0)] [(true,M.Site.rs r)]:=by
 unfold aA5 at h
 exact sgo 11 [.cell 2 180] Tryz.func212
instance:bA 212 (type_of% @aVH):=⟨@aVH⟩
theorem aW2 (p0 r) (h:aAw p0=some r):Sc 213 [aX (M.Server.en p0)] [(true,M.Server.rs r)]:=by
 unfold aAw at h
 exact sgo 15 [.cell 2 274] Tryz.func213
instance:bA 213 (type_of% @aW2):=⟨@aW2⟩
theorem c96 (p0 r) (h:jQ p0=some r):Sc 96 [aX (M.World.en p0)] [(true,M.World.rs r)]:=by
 have i1:=fun (x1:M.aC)=>inv fun m s=>∃v4:Int,∃r12:List M.bJ,∃u12:Nat,(s.t 1=vP 1 1 0∧s.t 2=vP 2 1 0∧s.t 3=vP 3 1 0∧s.t 4=vI v4∧s.h 1=(1,oX 96 (M.World.en p0))∧s.h 2=(1,aR1)∧s.h 3=(1,oB 96 [cI p0.Now,cB p0.Online,cI p0.Device,.row 100010 1,.row 100012 u12,cI p0.NextPage,cL M.dA.en p0.Locks.Locks,cL M.fW.en p0.Channel.Mails,cL M.Site.en p0.Sites,cL M.Server.en p0.Servers])∧s.h 100010=(1,oW 46 24 M.Bucket.en x1.Buckets)∧s.h 100012=(u12,oW 103 11 M.bJ.en r12))∧jJ p0 x1 m v4 r12=some r
 have e1:=@jJ.eq_2
 have i2:=fun (x1:M.aC) (r12:List M.bJ) (x42:M.aP) (x44:M.Channel) (s12:St) (u12:Nat)=>inv fun m s=>∃v5:Int,∃r40:List M.Site,∃u40:Nat,(s.t 1=vP 1 1 0∧s.t 2=vP 2 1 0∧s.t 3=vP 3 1 0∧s.t 5=vI v5∧s.h 1=(1,oX 96 (M.World.en p0))∧s.h 2=(1,aR1)∧s.h 3=(1,oB 96 [cI p0.Now,cB p0.Online,cI p0.Device,.row 100010 1,.row 100012 u12,cI p0.NextPage,.row 100034 ((s12.h 100034).1+1),.row 100038 ((s12.h 100038).1+1),.row 100040 u40,cL M.Server.en p0.Servers])∧s.h 100010=(1,oW 46 24 M.Bucket.en x1.Buckets)∧s.h 100012=(u12,oW 103 11 M.bJ.en r12)∧s.h 100034=(((s12.h 100034).1+1),oW 396 4 M.dA.en x42.Locks)∧s.h 100038=(((s12.h 100038).1+1),oW 399 3 M.fW.en x44.Mails)∧s.h 100040=(u40,oW 180 4 M.Site.en r40))∧hJ p0 x1 r12 x42 x44 m v5 r40=some r
 have e2:=@hJ.eq_2
 have i3:=fun (x1:M.aC) (r12:List M.bJ) (x42:M.aP) (x44:M.Channel) (r40:List M.Site) (s12:St) (u12:Nat) (u40:Nat)=>inv fun m s=>∃v6:Int,∃r60:List M.Server,∃u60:Nat,(s.t 1=vP 1 1 0∧s.t 2=vP 2 1 0∧s.t 3=vP 3 1 0∧s.t 6=vI v6∧s.h 1=(1,oX 96 (M.World.en p0))∧s.h 2=(1,aR1)∧s.h 3=(1,oB 96 [cI p0.Now,cB p0.Online,cI p0.Device,.row 100010 1,.row 100012 u12,cI p0.NextPage,.row 100034 ((s12.h 100034).1+1),.row 100038 ((s12.h 100038).1+1),.row 100040 u40,.row 100060 u60])∧s.h 100010=(1,oW 46 24 M.Bucket.en x1.Buckets)∧s.h 100012=(u12,oW 103 11 M.bJ.en r12)∧s.h 100034=(((s12.h 100034).1+1),oW 396 4 M.dA.en x42.Locks)∧s.h 100038=(((s12.h 100038).1+1),oW 399 3 M.fW.en x44.Mails)∧s.h 100040=(u40,oW 180 4 M.Site.en r40)∧s.h 100060=(u60,oW 274 5 M.Server.en r60))∧hD p0 x1 r12 x42 x44 r40 m v6 r60=some r
 have e3:=@hD.eq_2
 unfold jQ at h
 exact sgo 81 [.cell 2 96] Tryz.func96
instance:bA 96 (type_of% @c96):=⟨@c96⟩
theorem c97 (p0 p1 r) (h:oJ p0 p1=some r):Sc 97 [aX (M.Registration.en p0),aI p1] [(true,M.Registration.rs r.1),rB r.2]:=by
 unfold oJ at h
 exact sgo 29 [.cell 4 25,.tmp 5] Tryz.func97
instance:bA 97 (type_of% @c97):=⟨@c97⟩
theorem aX9 (p0 p1 r) (h:yF p0 p1=some r):Sc 214 [aI p0,aI p1] [rI r]:=by
 unfold yF at h
 exact sgo 10 [.tmp 4] Tryz.func214
instance:bA 214 (type_of% @aX9):=⟨@aX9⟩
theorem c98 (p0 r) (h:mY p0=some r):Sc 98 [aX (M.Registration.en p0)] [rI r]:=by
 unfold mY at h
 exact sgo 11 [.tmp 2] Tryz.func98
instance:bA 98 (type_of% @c98):=⟨@c98⟩
theorem aXI (p0 p1 r) (h:xR p0 p1=some r):Sc 147 [aX (M.aA.en p0),aI p1] [(true,M.aA.rs r.1),rB r.2]:=by
 have i1:=fun (x1:M.aA)=>inv fun m s=>∃v7:Int,(s.t 1=vI p1∧s.t 2=vP 2 1 0∧s.t 4=vP 4 1 0∧s.t 6=vP 6 1 0∧s.t 7=vI v7∧s.h 2=(1,oX 28 (M.aA.en p0))∧s.h 4=(1,oB 28 [.nil])∧s.h 6=(1,oB 28 [.row 100010 1])∧s.h 100010=(1,oW 212 2 M.Cache.en x1.Caches))∧jA p0 p1 x1 m v7=some r
 have e1:=@jA.eq_2
 unfold xR at h
 exact sgo 57 [.cell 4 28,.tmp 5] Tryz.func147
instance:bA 147 (type_of% @aXI):=⟨@aXI⟩
theorem aVb (p0 p1 r) (h:jY p0 p1=some r):Sc 215 [aX (M.Site.en p0),aI p1] [rB r]:=by
 unfold jY at h
 exact sgo 18 [.tmp 4] Tryz.func215
instance:bA 215 (type_of% @aVb):=⟨@aVb⟩
theorem aYP (r) (h:sP=some r):Sc 357 [] [(true,M.Response.rs r)]:=by
 unfold sP at h
 exact sgo 2 [.cell 0 219] Tryz.func357
instance:bA 357 (type_of% @aYP):=⟨@aYP⟩
theorem aWM (p0 p1 r) (h:aAf p0 p1=some r):Sc 358 [aX (M.Site.en p0),aS p1] [rB r]:=by
 have i1:=inv fun m s=>∃v5:Int,(s.t 1=vS p1∧s.t 2=vP 2 1 0∧s.t 5=vI v5∧s.h 2=(1,oX 180 (M.Site.en p0)))∧kP p0 p1 m v5=some r
 have e1:=@kP.eq_2
 unfold aAf at h
 exact sgo 20 [.tmp 4] Tryz.func358
instance:bA 358 (type_of% @aWM):=⟨@aWM⟩
theorem aX1 (p0 r) (h:sA p0=some r):Sc 402 [aL enB p0] [rW 3 1 enI r]:=by
 have i1:=inv fun m s=>∃v4:Int,∃r7:List Int,∃u7:Nat,(s.t 0=vL enB p0∧s.t 3=vR 100007 u7∧s.t 4=vI v4∧s.h 100007=(u7,oW 3 1 enI r7))∧gQ p0 m v4 r7=some r
 have e1:=@gQ.eq_2
 unfold sA at h
 exact sgo 23 [.tmp 2] Tryz.func402
instance:bA 402 (type_of% @aX1):=⟨@aX1⟩
theorem aUs (p0 p1 r) (h:aDe p0 p1=some r):Sc 473 [aI p0,aI p1] [rI r]:=by
 unfold aDe at h
 exact sgo 15 [.tmp 4] Tryz.func473
instance:bA 473 (type_of% @aUs):=⟨@aUs⟩
theorem aVS (p0 r) (h:aDB p0=some r):Sc 401 [aL enI p0] [rI r]:=by
 have i1:=inv fun m s=>∃v3:Int,∃v4:Int,(s.t 0=vL enI p0∧s.t 3=vI v3∧s.t 4=vI v4)∧sH p0 m v3 v4=some r
 have e1:=@sH.eq_2
 unfold aDB at h
 exact sgo 22 [.tmp 2] Tryz.func401
instance:bA 401 (type_of% @aVS):=⟨@aVS⟩
theorem aWC (p0 p1 r) (h:pF p0 p1=some r):Sc 450 [aI p0,aL enI p1] [rI r]:=by
 unfold pF at h
 exact sgo 13 [.tmp 4] Tryz.func450
instance:bA 450 (type_of% @aWC):=⟨@aWC⟩
theorem aVy (p0 p1 r) (h:gY p0 p1=some r):Sc 451 [aI p0,aS p1] [rI r]:=by
 unfold gY at h
 exact sgo 11 [.tmp 4] Tryz.func451
instance:bA 451 (type_of% @aVy):=⟨@aVy⟩
theorem aW1 (p0 p1 p2 r) (h:aBx p0 p1 p2=some r):Sc 359 [aX (M.Site.en p0),aS p1,aI p2] [rW 5 1 enB r]:=by
 have i1:=fun (x5:Int)=>inv fun m s=>∃v9:Int,∃r19:List Int,∃u19:Nat,(s.t 7=vI x5∧s.t 8=vR 100019 u19∧s.t 9=vI v9∧s.h 100019=(u19,oW 5 1 enB r19))∧pB x5 m v9 r19=some r
 have e1:=@pB.eq_2
 unfold aBx at h
 exact sgo 34 [.tmp 6] Tryz.func359
instance:bA 359 (type_of% @aW1):=⟨@aW1⟩
theorem aUB (p0 p1 p2 r) (h:mO p0 p1 p2=some r):Sc 217 [aX (M.Site.en p0),aS p1,aI p2] [(true,M.Response.rs r)]:=by
 unfold mO at h
 exact sgo 32 [.cell 6 219] Tryz.func217
instance:bA 217 (type_of% @aUB):=⟨@aUB⟩
theorem aSb (p0 p1 r) (h:pN p0 p1=some r):Sc 218 [aX (M.aA.en p0),aI p1] [rI r]:=by
 have i1:=inv fun m s=>∃v5:Int,(s.t 1=vI p1∧s.t 2=vP 2 1 0∧s.t 5=vI v5∧s.h 2=(1,oX 28 (M.aA.en p0)))∧iO p0 p1 m v5=some r
 have e1:=@iO.eq_2
 unfold pN at h
 exact sgo 22 [.tmp 4] Tryz.func218
instance:bA 218 (type_of% @aSb):=⟨@aSb⟩
end Go.Proofs.YtidhkhdnjonjfaaGreat.gen
