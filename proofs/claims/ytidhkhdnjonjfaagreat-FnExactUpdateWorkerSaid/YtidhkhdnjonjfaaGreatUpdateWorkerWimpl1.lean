/-
  Helper text. No conditions.
-/
import Derived.Test.YtidhkhdnjonjfaaGreatUpdateWorkerTi
import Derived.Test.YtidhkhdnjonjfaaGreatUpdateWorkerWimpl0
import Derived.Test.YtidhkhdnjonjfaaGreatUpdateWorkerWlib0
import Derived.Test.YtidhkhdnjonjfaaGreatUpdateWorkerWlib1
set_option linter.unusedVariables false
set_option linter.unusedSimpArgs false
namespace Go.Proofs.YtidhkhdnjonjfaaGreat.gen
open Go Go.Sh
set_option maxRecDepth 20000
set_option maxHeartbeats 4000000
theorem aXR (p0 p1 r) (h:jU p0 p1=some r):Sc 301 [aL M.aD.en p0,aX (M.aD.en p1)] [rI r]:=by
 have i1:=inv fun m s=>∃v8:Int,(s.t 0=vL M.aD.en p0∧s.t 3=vP 3 1 0∧s.t 7=vI (List.length p0:Int)∧s.t 8=vI v8∧s.h 3=(1,oX 239 (M.aD.en p1)))∧dN p0 p1 m v8=some r
 have e1:=@dN.eq_2
 unfold jU at h
 exact sgo 19 [.tmp 4] Tryz.func301
instance:bA 301 (type_of% @aXR):=⟨@aXR⟩
theorem aYB (p0 p1 r) (h:hT p0 p1=some r):Sc 156 [aL M.aD.en p0,aX (M.aD.en p1)] [rB r]:=by
 unfold hT at h
 exact sgo 9 [.tmp 4] Tryz.func156
instance:bA 156 (type_of% @aYB):=⟨@aYB⟩
theorem aTj (p0 c0 r) (h:vO p0 c0=some r):Sc 344 [aX (M.Field.en p0),(false,[.ptr [.str c0]])] [rB r]:=by
 unfold vO at h
 exact sgo 8 [.tmp 3] Tryz.func344
instance:bA 344 (type_of% @aTj):=⟨@aTj⟩
theorem aSw (p0:List M.Field) (p1:M.Field→Option Bool) (f1_:FuncId) (k1_:List D) (hp1 : ∀z0 r,p1 z0=some r→lD Tryz.prog f1_ ((true,M.Field.en z0) ::  k1_.map fun c=>(false,[c])) [(false,[.ro (.bool r)])]) (r:Int) (h:jM p0 p1=some r):Sc 343 [(false,[.sl (List.map M.Field.en p0)]),(false,[.fn f1_ k1_])] [rI r]:=by
 unfold jM at h
 simp only [EN]
 refine sgn 19 [.tmp 4] Tryz.func343 fun base wd => ?_
 refine sq (rn ?_)
 refine an (sq (sq (rn ?_)))
 refine an (bk ?_)
 refine aC9 (fun m s=>∃v8:Int,s.t 0=vL M.Field.en p0∧s.t 1 = .v false [.dat (.fn f1_ k1_)]∧s.t 7=vI (List.length p0:Int)∧s.t 8=vI v8∧cG p0 p1 m v8=some r) fuel ?_ ?_
 ·refine ⟨0,?_,?_,?_,?_,h⟩
  all_goals simp +decide only [F,reduceIte,Nat.reduceAdd,qB,qC,EN, *,-h]
 rintro mL1 s1 ⟨v8,f2,f3,f4,f5,h⟩
 rcases mL1 with _ | mL1
 ·exact absurd h (by simp [cG])
 simp only [cG] at h
 refine sq (rn ?_)
 refine an (sq ?_)
 rcases aEL (decide (v8<(List.length p0:Int))) with b6 | b6
 ·replace h:=bR b6 h
  refine cf (xt (aE2 (aEo (aIs (an (sq (rn ?_)))))))
  refine an (rt ?_)
  cases h
  simp [Ret,TB,EN, *]
 replace h:=bT b6 h
 refine ct (sk (an (sq (bk (sq (rn ?_))))))
 refine an (sq ?_)
 obtain ⟨x7,h8,h⟩:=bind_some h
 obtain ⟨q9,q10,q11⟩:=aT h8
 obtain ⟨x12,h13,h⟩:=bind_some h
 refine rn1 (hp1 x7 x12 h13) ?_
 refine an ?_
 rcases gO x12 with b14 | b14
 ·replace h:=bT b14 h
  refine ct (sq (rn ?_))
  refine an (rt ?_)
  cases h
  simp [Ret,TB,EN, *]
 replace h:=bR b14 h
 refine cf (sk (ab (an (rn ?_))))
 refine aHA ⟨mL1,by omega,(IntKind.i64.wrap (v8+1)),?_,?_,?_,?_,h⟩
 all_goals simp +decide only [F,reduceIte,Nat.reduceAdd,qB,qC,EN, *,-h]
instance:bA 343 (type_of% @aSw):=⟨@aSw⟩
theorem aVB (p0 p1 r) (h:aCc p0 p1=some r):Sc 193 [aX (M.aU.en p0),aS p1] [rI r]:=by
 unfold aCc at h
 simp only [EN]
 refine sgn 9 [.tmp 4] Tryz.func193 fun base wd => ?_
 refine sq (rn ?_)
 refine an (sq ?_)
 obtain ⟨x1,h2,h⟩:=bind_some h
 refine rn1 (aSw p0.Fields (fun z0=>vO z0 p1) 344 [.ptr [.str p1]] (fun z0 r hr=>aTj z0 p1 r hr) x1 h2) ?_
 refine an (rt ?_)
 cases h
 simp [Ret,TB,EN, *]
instance:bA 193 (type_of% @aVB):=⟨@aVB⟩
theorem c85 (p0 p1 r) (h:jV p0 p1=some r):Sc 85 [aX (M.aU.en p0),aS p1] [rI r.1,rB r.2]:=by
 unfold jV at h
 exact sgo 18 [.tmp 4,.tmp 5] Tryz.func85
instance:bA 85 (type_of% @c85):=⟨@c85⟩
theorem aXu (p0 p1 p2 r) (h:rM p0 p1 p2=some r):Sc 413 [aX (M.Item.en p0),aX (M.Item.en p1),aS p2] [rB r]:=by
 unfold rM at h
 exact sgo 41 [.tmp 6] Tryz.func413
instance:bA 413 (type_of% @aXu):=⟨@aXu⟩
theorem aUh (p0 p1 r) (h:aAo p0 p1=some r):Sc 302 [aX (M.aJ.en p0),aS p1] [rW 227 4 M.Item.en r]:=by
 have i1:=inv fun m s=>∃v15:Int,∃r11:List M.Item,∃u11:Nat,(s.t 1=vS p1∧s.t 5=vR 100011 u11∧s.t 13=vL M.Item.en p0.Items∧s.t 14=vI (List.length p0.Items:Int)∧s.t 15=vI v15∧s.h 100011=(u11,oW 227 4 M.Item.en r11))∧jC p0 p1 m v15 r11=some r
 have e1:=@jC.eq_2
 have i2:=fun (v15:Int) (r11:List M.Item) (x15:M.Item) (k24:Int→Option (List M.Item)) (s7:St) (u11:Nat)=>inv fun m s=>∃v10_L2:Int,(s.t 1=vS p1∧s.t 5=vR 100011 u11∧s.t 7=vP 7 ((s7.h 7).1+1) 0∧s.t 10=vI v10_L2∧s.t 13=vL M.Item.en p0.Items∧s.t 14=vI (List.length p0.Items:Int)∧s.t 15=vI v15∧s.h 7=(((s7.h 7).1+1),oX 227 (M.Item.en x15))∧s.h 100011=(u11,oW 227 4 M.Item.en r11))∧kT p1 r11 x15 k24 m v10_L2=some r
 have e2:=@kT.eq_2
 unfold aAo at h
 exact sgo 52 [.tmp 4] Tryz.func302
instance:bA 302 (type_of% @aUh):=⟨@aUh⟩
theorem aWu (p0 p1 r) (h:iG p0 p1=some r):Sc 157 [aX (M.aJ.en p0),aS p1] [(true,M.Key.rs r.1),(true,M.Key.rs r.2.1),rB r.2.2]:=by
 have i1:=fun (x1:(List M.Item))=>inv fun m s=>∃v8:Int,(s.t 1=vS p1∧s.t 4=vP 4 1 0∧s.t 5=vP 5 1 0∧s.t 7=vR 100015 1∧s.t 8=vI v8∧s.h 4=(1,oB 225 [cI 0,cI 0,cS (⟨#[]⟩:ByteArray)])∧s.h 5=(1,oB 225 [cI 0,cI 0,cS (⟨#[]⟩:ByteArray)])∧s.h 100015=(1,oW 227 4 M.Item.en x1))∧fE p1 x1 m v8=some r
 have e1:=@fE.eq_2
 unfold iG at h
 exact sgo 59 [.cell 4 225,.cell 5 225,.tmp 6] Tryz.func157
instance:bA 157 (type_of% @aWu):=⟨@aWu⟩
theorem c52 (p0 r) (h:sX p0=some r):Sc 52 [aX (M.Database.en p0)] [rB r]:=by
 have i1:=inv fun m s=>∃v36:Int,(s.t 1=vP 1 1 0∧s.t 34=vL M.aJ.en p0.Stores∧s.t 35=vI (List.length p0.Stores:Int)∧s.t 36=vI v36∧s.h 1=(1,oX 32 (M.Database.en p0)))∧eQ p0 m v36=some r
 have e1:=@eQ.eq_2
 have i2:=inv fun m s=>∃v64:Int,(s.t 1=vP 1 1 0∧s.t 62=vL M.aD.en p0.Unique∧s.t 63=vI (List.length p0.Unique:Int)∧s.t 64=vI v64∧s.h 1=(1,oX 32 (M.Database.en p0)))∧eW p0 m v64=some r
 have e2:=@eW.eq_2
 unfold sX at h
 exact sgo 103 [.tmp 2] Tryz.func52
instance:bA 52 (type_of% @c52):=⟨@c52⟩
theorem aXx (p0 r) (h:jW p0=some r):Sc 295 [aX (M.aW.en p0)] [rB r]:=by
 unfold jW at h
 exact sgo 26 [.tmp 2] Tryz.func295
instance:bA 295 (type_of% @aXx):=⟨@aXx⟩
theorem aU4 (p0 r) (h:zI p0=some r):Sc 150 [aX (M.aV.en p0)] [rB r]:=by
 have i1:=inv fun m s=>∃v12:Int,(s.t 1=vP 1 1 0∧s.t 3=vI (List.length p0.Writes:Int)∧s.t 10=vL M.aW.en p0.Writes∧s.t 11=vI (List.length p0.Writes:Int)∧s.t 12=vI v12∧s.h 1=(1,oX 40 (M.aV.en p0)))∧jT p0 m v12=some r
 have e1:=@jT.eq_2
 unfold zI at h
 exact sgo 51 [.tmp 2] Tryz.func150
instance:bA 150 (type_of% @aU4):=⟨@aU4⟩
theorem c53 (p0 r) (h:xQ p0=some r):Sc 53 [aX (M.aE.en p0)] [rB r]:=by
 unfold xQ at h
 exact sgo 23 [.tmp 2] Tryz.func53
instance:bA 53 (type_of% @c53):=⟨@c53⟩
theorem aXF (p0 p1 r) (h:uL p0 p1=some r):Sc 141 [aX (M.Response.en p0),aB p1] [rI r]:=by
 unfold uL at h
 exact sgo 10 [.tmp 4] Tryz.func141
instance:bA 141 (type_of% @aXF):=⟨@aXF⟩
theorem c41 (p0 r) (h:tZ p0=some r):Sc 41 [aX (M.aA.en p0)] [rI r]:=by
 have i1:=inv fun m s=>∃v3:Int,∃v11:Int,(s.t 3=vI v3∧s.t 9=vL M.Cache.en p0.Caches∧s.t 10=vI (List.length p0.Caches:Int)∧s.t 11=vI v11)∧eV p0 m v3 v11=some r
 have e1:=@eV.eq_2
 have i2:=fun (v11:Int) (x7:M.Cache) (k13:Int→Int→Option Int)=>inv fun m s=>∃v3_L2:Int,∃v18_L2:Int,(s.t 3=vI v3_L2∧s.t 9=vL M.Cache.en p0.Caches∧s.t 10=vI (List.length p0.Caches:Int)∧s.t 11=vI v11∧s.t 16=vL M.Cached.en x7.Entries∧s.t 17=vI (List.length x7.Entries:Int)∧s.t 18=vI v18_L2)∧hY x7 k13 m v3_L2 v18_L2=some r
 have e2:=@hY.eq_2
 unfold tZ at h
 exact sgo 34 [.tmp 2] Tryz.func41
instance:bA 41 (type_of% @c41):=⟨@c41⟩
theorem aX2 (p0 r) (h:xG p0=some r):Sc 143 [aX (M.Key.en p0)] [rW 5 1 enB r]:=by
 have i1:=inv fun m s=>∃v4:Int,∃r12:List Int,∃u12:Nat,(s.t 1=vP 1 1 0∧s.t 3=vR 100012 u12∧s.t 4=vI v4∧s.h 1=(1,oX 225 (M.Key.en p0))∧s.h 100012=(u12,oW 5 1 enB r12))∧fM p0 m v4 r12=some r
 have e1:=@fM.eq_2
 unfold xG at h
 exact sgo 34 [.tmp 2] Tryz.func143
instance:bA 143 (type_of% @aX2):=⟨@aX2⟩
theorem aUf (p0 p1 r) (h:hU p0 p1=some r):Sc 290 [aL enB p0,aI p1] [rW 5 1 enB r]:=by
 have i1:=inv fun m s=>∃v1:Int,∃r7:List Int,∃u7:Nat,(s.t 1=vI v1∧s.t 5=vR 100007 u7∧s.h 100007=(u7,oW 5 1 enB r7))∧fN m v1 r7=some r
 have e1:=@fN.eq_2
 unfold hU at h
 exact sgo 28 [.tmp 4] Tryz.func290
instance:bA 290 (type_of% @aUf):=⟨@aUf⟩
theorem aV0 (p0 p1 r) (h:rP p0 p1=some r):Sc 291 [aL enB p0,aL enB p1] [rW 5 1 enB r]:=by
 unfold rP at h
 exact sgo 11 [.tmp 4] Tryz.func291
instance:bA 291 (type_of% @aV0):=⟨@aV0⟩
theorem aWw (p0 r) (h:oG p0=some r):Sc 144 [aX (M.aU.en p0)] [rW 5 1 enB r]:=by
 have i1:=aLA [.t 3 7050000 5 1] fun m s=>∃v17:Int,∃r50000:List Int,∃u50000:Nat,(s.t 3=vR 7050000 u50000∧s.t 15=vL M.Field.en p0.Fields∧s.t 16=vI (List.length p0.Fields:Int)∧s.t 17=vI v17∧s.h 7050000=(u50000,oW 5 1 enB r50000))∧gG p0 m v17 r50000=some r
 have e1:=@gG.eq_2
 unfold oG at h
 exact sgo 31 [.tmp 2] Tryz.func144
instance:bA 144 (type_of% @aWw):=⟨@aWw⟩
theorem c43 (p0 r) (h:pC p0=some r):Sc 43 [aX (M.aJ.en p0)] [rI r]:=by
 have i1:=inv fun m s=>∃v3:Int,∃v9:Int,(s.t 3=vI v3∧s.t 7=vL M.Item.en p0.Items∧s.t 8=vI (List.length p0.Items:Int)∧s.t 9=vI v9)∧iN p0 m v3 v9=some r
 have e1:=@iN.eq_2
 unfold pC at h
 exact sgo 26 [.tmp 2] Tryz.func43
instance:bA 43 (type_of% @c43):=⟨@c43⟩
theorem aVx (p0 r) (h:oD p0=some r):Sc 142 [aX (M.Database.en p0)] [rI r]:=by
 have i1:=inv fun m s=>∃v3:Int,∃v9:Int,(s.t 3=vI v3∧s.t 7=vL M.aJ.en p0.Stores∧s.t 8=vI (List.length p0.Stores:Int)∧s.t 9=vI v9)∧gB p0 m v3 v9=some r
 have e1:=@gB.eq_2
 unfold oD at h
 exact sgo 19 [.tmp 2] Tryz.func142
instance:bA 142 (type_of% @aVx):=⟨@aVx⟩
theorem c42 (p0 r) (h:aBr p0=some r):Sc 42 [aX (M.bB.en p0)] [rI r]:=by
 unfold aBr at h
 exact sgo 10 [.tmp 2] Tryz.func42
instance:bA 42 (type_of% @c42):=⟨@c42⟩
theorem c11 (p0 r) (h:aAn p0=some r):Sc 11 [aX (M.Bucket.en p0)] [rI r]:=by
 unfold aAn at h
 exact sgo 23 [.tmp 2] Tryz.func11
instance:bA 11 (type_of% @c11):=⟨@c11⟩
theorem c17 (p0 r) (h:lI p0=some r):Sc 17 [aX (M.Bucket.en p0)] [rB r]:=by
 unfold lI at h
 exact sgo 50 [.tmp 2] Tryz.func17
instance:bA 17 (type_of% @c17):=⟨@c17⟩
theorem aVX (p0 p1 r) (h:kZ p0 p1=some r):Sc 362 [aX (M.Bucket.en p0),aX (M.Bucket.en p1)] [rB r]:=by
 unfold kZ at h
 exact sgo 24 [.tmp 4] Tryz.func362
instance:bA 362 (type_of% @aVX):=⟨@aVX⟩
theorem aUX (p0 r) (h:cA p0=some r):Sc 227 [aX (M.aC.en p0)] [rB r]:=by
 have i1:=inv fun m s=>∃v8:Int,(s.t 1=vP 1 1 0∧s.t 6=vL M.Bucket.en p0.Buckets∧s.t 7=vI (List.length p0.Buckets:Int)∧s.t 8=vI v8∧s.h 1=(1,oX 85 (M.aC.en p0)))∧fO p0 m v8=some r
 have e1:=@fO.eq_2
 unfold cA at h
 exact sgo 36 [.tmp 2] Tryz.func227
instance:bA 227 (type_of% @aUX):=⟨@aUX⟩
theorem aWL (p0 r) (h:tA p0=some r):Sc 363 [aS p0] [rB r]:=by
 unfold tA at h
 exact sgo 5 [.tmp 2] Tryz.func363
instance:bA 363 (type_of% @aWL):=⟨@aWL⟩
theorem aYX (p0 r) (h:pU p0=some r):Sc 228 [aX (M.aP.en p0)] [rB r]:=by
 have i1:=inv fun m s=>∃v10:Int,(s.t 1=vP 1 1 0∧s.t 8=vL M.dA.en p0.Locks∧s.t 9=vI (List.length p0.Locks:Int)∧s.t 10=vI v10∧s.h 1=(1,oX 89 (M.aP.en p0)))∧fH p0 m v10=some r
 have e1:=@fH.eq_2
 have i2:=fun (v10:Int) (x8:M.dA) (k22:Int→Option Bool) (s1:St)=>inv fun m s=>∃v30_L2:Int,(s.t 1=vP 1 1 0∧s.t 4=vP 4 ((s1.h 4).1+1) 0∧s.t 8=vL M.dA.en p0.Locks∧s.t 9=vI (List.length p0.Locks:Int)∧s.t 10=vI v10∧s.t 28=vL M.dA.en (List.take v10.toNat p0.Locks)∧s.t 29=vI (List.length (List.take v10.toNat p0.Locks):Int)∧s.t 30=vI v30_L2∧s.h 1=(1,oX 89 (M.aP.en p0))∧s.h 4=(((s1.h 4).1+1),oX 396 (M.dA.en x8)))∧cH p0 v10 x8 k22 m v30_L2=some r
 have e2:=@cH.eq_2
 unfold pU at h
 exact sgo 64 [.tmp 2] Tryz.func228
instance:bA 228 (type_of% @aYX):=⟨@aYX⟩
theorem aYT (p0 r) (h:aCM p0=some r):Sc 229 [aX (M.bJ.en p0)] [rB r]:=by
 have i1:=inv fun m s=>∃v8:Int,(s.t 1=vP 1 1 0∧s.t 6=vL M.aN.en p0.aN∧s.t 7=vI (List.length p0.aN:Int)∧s.t 8=vI v8∧s.h 1=(1,oX 103 (M.bJ.en p0)))∧mQ p0 m v8=some r
 have e1:=@mQ.eq_2
 unfold aCM at h
 exact sgo 48 [.tmp 2] Tryz.func229
instance:bA 229 (type_of% @aYT):=⟨@aYT⟩
theorem aXg (p0 r) (h:uZ p0=some r):Sc 230 [aX (M.Site.en p0)] [rB r]:=by
 have i1:=inv fun m s=>∃v8:Int,(s.t 1=vP 1 1 0∧s.t 6=vL enS p0.Files∧s.t 7=vI (List.length p0.Files:Int)∧s.t 8=vI v8∧s.h 1=(1,oX 180 (M.Site.en p0)))∧iL p0 m v8=some r
 have e1:=@iL.eq_2
 unfold uZ at h
 exact sgo 45 [.tmp 2] Tryz.func230
instance:bA 230 (type_of% @aXg):=⟨@aXg⟩
theorem aUA (p0 r) (h:zS p0=some r):Sc 231 [aX (M.Server.en p0)] [rB r]:=by
 have i1:=inv fun m s=>∃v10:Int,(s.t 1=vP 1 1 0∧s.t 8=vL M.aK.en p0.aK∧s.t 9=vI (List.length p0.aK:Int)∧s.t 10=vI v10∧s.h 1=(1,oX 274 (M.Server.en p0)))∧gK p0 m v10=some r
 have e1:=@gK.eq_2
 have i2:=inv fun m s=>∃v45:Int,(s.t 1=vP 1 1 0∧s.t 43=vL M.aW.en p0.Changes∧s.t 44=vI (List.length p0.Changes:Int)∧s.t 45=vI v45∧s.h 1=(1,oX 274 (M.Server.en p0)))∧iF p0 m v45=some r
 have e2:=@iF.eq_2
 unfold zS at h
 exact sgo 68 [.tmp 2] Tryz.func231
instance:bA 231 (type_of% @aUA):=⟨@aUA⟩
theorem aXK (p0 r) (h:xW p0=some r):Sc 105 [aX (M.World.en p0)] [rB r]:=by
 have i1:=inv fun m s=>∃v56:Int,(s.t 1=vP 1 1 0∧s.t 54=vL M.bJ.en p0.Pages∧s.t 55=vI (List.length p0.Pages:Int)∧s.t 56=vI v56∧s.h 1=(1,oX 96 (M.World.en p0)))∧fA p0 m v56=some r
 have e1:=@fA.eq_2
 have i2:=inv fun m s=>∃v101:Int,(s.t 1=vP 1 1 0∧s.t 99=vL M.Site.en p0.Sites∧s.t 100=vI (List.length p0.Sites:Int)∧s.t 101=vI v101∧s.h 1=(1,oX 96 (M.World.en p0)))∧gZ p0 m v101=some r
 have e2:=@gZ.eq_2
 unfold xW at h
 exact sgo 126 [.tmp 2] Tryz.func105
instance:bA 105 (type_of% @aXK):=⟨@aXK⟩
theorem aXG (p0 r) (h:mS p0=some r):Sc 106 [aX (M.Registration.en p0)] [rI r]:=by
 unfold mS at h
 exact sgo 10 [.tmp 2] Tryz.func106
instance:bA 106 (type_of% @aXG):=⟨@aXG⟩
theorem aWA (p0 p1 r) (h:oA p0 p1=some r):Sc 107 [aX (M.Registration.en p0),aI p1] [(true,M.Registration.rs r.1),rB r.2]:=by
 unfold oA at h
 exact sgo 29 [.cell 4 25,.tmp 5] Tryz.func107
instance:bA 107 (type_of% @aWA):=⟨@aWA⟩
theorem aVi (p0 p1 r) (h:kA p0 p1=some r):Sc 232 [aX (M.Site.en p0),aI p1] [rB r]:=by
 unfold kA at h
 exact sgo 24 [.tmp 4] Tryz.func232
instance:bA 232 (type_of% @aVi):=⟨@aVi⟩
theorem aXS (p0 p1 r) (h:wH p0 p1=some r):Sc 234 [aX (M.aA.en p0),aI p1] [(true,M.aA.rs r.1),rB r.2]:=by
 have i1:=fun (x1:M.aA)=>inv fun m s=>∃v7:Int,(s.t 1=vI p1∧s.t 2=vP 2 1 0∧s.t 4=vP 4 1 0∧s.t 6=vP 6 1 0∧s.t 7=vI v7∧s.h 2=(1,oX 28 (M.aA.en p0))∧s.h 4=(1,oB 28 [.nil])∧s.h 6=(1,oB 28 [.row 100009 1])∧s.h 100009=(1,oW 212 2 M.Cache.en x1.Caches))∧iQ p0 p1 x1 m v7=some r
 have e1:=@iQ.eq_2
 unfold wH at h
 exact sgo 46 [.cell 4 28,.tmp 5] Tryz.func234
instance:bA 234 (type_of% @aXS):=⟨@aXS⟩
theorem aWz (r) (h:sR=some r):Sc 366 [] [(true,M.Response.rs r)]:=by
 unfold sR at h
 exact sgo 2 [.cell 0 219] Tryz.func366
instance:bA 366 (type_of% @aWz):=⟨@aWz⟩
theorem aUv (p0 p1 r) (h:lU p0 p1=some r):Sc 455 [aL enS p0,aS p1] [rB r]:=by
 unfold lU at h
 exact sgo 9 [.tmp 4] Tryz.func455
instance:bA 455 (type_of% @aUv):=⟨@aUv⟩
theorem aVF (p0 p1 r) (h:aAq p0 p1=some r):Sc 367 [aX (M.Site.en p0),aS p1] [rB r]:=by
 unfold aAq at h
 exact sgo 9 [.tmp 4] Tryz.func367
instance:bA 367 (type_of% @aVF):=⟨@aVF⟩
theorem aXN (p0 r) (h:rU p0=some r):Sc 438 [aL enB p0] [rW 3 1 enI r]:=by
 have i1:=inv fun m s=>∃v11:Int,∃r8:List Int,∃u8:Nat,(s.t 3=vR 100008 u8∧s.t 9=vL enB p0∧s.t 10=vI (List.length p0:Int)∧s.t 11=vI v11∧s.h 100008=(u8,oW 3 1 enI r8))∧gR p0 m v11 r8=some r
 have e1:=@gR.eq_2
 unfold rU at h
 exact sgo 22 [.tmp 2] Tryz.func438
instance:bA 438 (type_of% @aXN):=⟨@aXN⟩
theorem aXV (p0 p1 r) (h:aDx p0 p1=some r):Sc 495 [aI p0,aI p1] [rI r]:=by
 unfold aDx at h
 exact sgo 18 [.tmp 4] Tryz.func495
instance:bA 495 (type_of% @aXV):=⟨@aXV⟩
theorem aXi (p0 r) (h:aDF p0=some r):Sc 437 [aL enI p0] [rI r]:=by
 have i1:=inv fun m s=>∃v3:Int,∃v8:Int,(s.t 3=vI v3∧s.t 6=vL enI p0∧s.t 7=vI (List.length p0:Int)∧s.t 8=vI v8)∧sK p0 m v3 v8=some r
 have e1:=@sK.eq_2
 unfold aDF at h
 exact sgo 21 [.tmp 2] Tryz.func437
instance:bA 437 (type_of% @aXi):=⟨@aXi⟩
theorem aUI (p0 p1 r) (h:pG p0 p1=some r):Sc 456 [aI p0,aL enI p1] [rI r]:=by
 unfold pG at h
 exact sgo 13 [.tmp 4] Tryz.func456
instance:bA 456 (type_of% @aUI):=⟨@aUI⟩
theorem aWn (p0 p1 r) (h:hP p0 p1=some r):Sc 457 [aI p0,aS p1] [rI r]:=by
 unfold hP at h
 exact sgo 14 [.tmp 4] Tryz.func457
instance:bA 457 (type_of% @aWn):=⟨@aWn⟩
theorem aYj (p0 p1 p2 r) (h:aCD p0 p1 p2=some r):Sc 368 [aX (M.Site.en p0),aS p1,aI p2] [rW 5 1 enB r]:=by
 have i1:=fun (x5:Int)=>inv fun m s=>∃v9:Int,∃r19:List Int,∃u19:Nat,(s.t 7=vI x5∧s.t 8=vR 100019 u19∧s.t 9=vI v9∧s.h 100019=(u19,oW 5 1 enB r19))∧eZ x5 m v9 r19=some r
 have e1:=@eZ.eq_2
 unfold aCD at h
 exact sgo 33 [.tmp 6] Tryz.func368
instance:bA 368 (type_of% @aYj):=⟨@aYj⟩
theorem aW5 (p0 p1 p2 r) (h:pE p0 p1 p2=some r):Sc 236 [aX (M.Site.en p0),aS p1,aI p2] [(true,M.Response.rs r)]:=by
 unfold pE at h
 exact sgo 32 [.cell 6 219] Tryz.func236
instance:bA 236 (type_of% @aW5):=⟨@aW5⟩
theorem aT8 (p0 c0 r) (h:rJ p0 c0=some r):Sc 370 [aX (M.Cache.en p0),(false,[.ptr [.int .i64 c0]])] [rB r]:=by
 unfold rJ at h
 exact sgo 8 [.tmp 3] Tryz.func370
instance:bA 370 (type_of% @aT8):=⟨@aT8⟩
theorem aTQ (p0:List M.Cache) (p1:M.Cache→Option Bool) (f1_:FuncId) (k1_:List D) (hp1 : ∀z0 r,p1 z0=some r→lD Tryz.prog f1_ ((true,M.Cache.en z0) ::  k1_.map fun c=>(false,[c])) [(false,[.ro (.bool r)])]) (r:Int) (h:jG p0 p1=some r):Sc 369 [(false,[.sl (List.map M.Cache.en p0)]),(false,[.fn f1_ k1_])] [rI r]:=by
 unfold jG at h
 simp only [EN]
 refine sgn 19 [.tmp 4] Tryz.func369 fun base wd => ?_
 refine sq (rn ?_)
 refine an (sq (sq (rn ?_)))
 refine an (bk ?_)
 refine aC9 (fun m s=>∃v8:Int,s.t 0=vL M.Cache.en p0∧s.t 1 = .v false [.dat (.fn f1_ k1_)]∧s.t 7=vI (List.length p0:Int)∧s.t 8=vI v8∧cJ p0 p1 m v8=some r) fuel ?_ ?_
 ·refine ⟨0,?_,?_,?_,?_,h⟩
  all_goals simp +decide only [F,reduceIte,Nat.reduceAdd,qB,qC,EN, *,-h]
 rintro mL1 s1 ⟨v8,f2,f3,f4,f5,h⟩
 rcases mL1 with _ | mL1
 ·exact absurd h (by simp [cJ])
 simp only [cJ] at h
 refine sq (rn ?_)
 refine an (sq ?_)
 rcases aEL (decide (v8<(List.length p0:Int))) with b6 | b6
 ·replace h:=bR b6 h
  refine cf (xt (aE2 (aEo (aIs (an (sq (rn ?_)))))))
  refine an (rt ?_)
  cases h
  simp [Ret,TB,EN, *]
 replace h:=bT b6 h
 refine ct (sk (an (sq (bk (sq (rn ?_))))))
 refine an (sq ?_)
 obtain ⟨x7,h8,h⟩:=bind_some h
 obtain ⟨q9,q10,q11⟩:=aT h8
 obtain ⟨x12,h13,h⟩:=bind_some h
 refine rn1 (hp1 x7 x12 h13) ?_
 refine an ?_
 rcases gO x12 with b14 | b14
 ·replace h:=bT b14 h
  refine ct (sq (rn ?_))
  refine an (rt ?_)
  cases h
  simp [Ret,TB,EN, *]
 replace h:=bR b14 h
 refine cf (sk (ab (an (rn ?_))))
 refine aHA ⟨mL1,by omega,(IntKind.i64.wrap (v8+1)),?_,?_,?_,?_,h⟩
 all_goals simp +decide only [F,reduceIte,Nat.reduceAdd,qB,qC,EN, *,-h]
instance:bA 369 (type_of% @aTQ):=⟨@aTQ⟩
theorem aTd (p0 p1 r) (h:pL p0 p1=some r):Sc 237 [aX (M.aA.en p0),aI p1] [rI r]:=by
 unfold pL at h
 simp only [EN]
 refine sgn 9 [.tmp 4] Tryz.func237 fun base wd => ?_
 refine sq (rn ?_)
 refine an (sq ?_)
 obtain ⟨x1,h2,h⟩:=bind_some h
 refine rn1 (aTQ p0.Caches (fun z0=>rJ z0 p1) 370 [.ptr [.int .i64 p1]] (fun z0 r hr=>aT8 z0 p1 r hr) x1 h2) ?_
 refine an (rt ?_)
 cases h
 simp [Ret,TB,EN, *]
instance:bA 237 (type_of% @aTd):=⟨@aTd⟩
end Go.Proofs.YtidhkhdnjonjfaaGreat.gen
