/-
  Helper text. No conditions.
-/
import Derived.Test.YtidhkhdnjonjfaaGreatBucketsTi
set_option linter.unusedVariables false
set_option linter.unusedSimpArgs false
namespace Go.Proofs.YtidhkhdnjonjfaaGreat.gen
open Go Go.Sh
open Go.IntKind (i64)
set_option maxRecDepth 20000
set_option maxHeartbeats 4000000
theorem c31 (p0 r) (h:tQ p0=some r):Sc 31 [aL enB p0] [(false,[.edit (.newb 199 [.sl (List.map enB r.b),.int .i64 r.i,.int .i64 r.h])])]:=by
 unfold tQ at h
 simp only [EN]
 refine sgN 32 [.tmp 2] Tryz.func31 fun base wd => ?_
 refine sq (rn ?_)
 refine an (sq (rn ?_))
 refine an (sq (sq (rn ?_)))
 refine an (bk ?_)
 refine wH (fun m s=>∃v3:Int,∃v4:Int,s.t 0=vL enB p0∧s.t 3=vI v3∧s.t 4=vI v4∧iR p0 m v3 v4=some r) fuel ?_ ?_
 ·refine ⟨(i64.wrap (193017+(List.length p0:Int))),0,?_,?_,?_,h⟩
  all_goals simp +decide only [F,reduceIte,Nat.reduceAdd,qB,qC,EN, *,-h]
 rintro mL1 s1 ⟨v3,v4,f2,f3,f4,h⟩
 rcases mL1 with _ | mL1
 ·exact absurd h (by simp [iR])
 simp only [iR] at h
 refine sq (sq ?_)
 rcases wF (decide (v4<(List.length p0:Int))) with b5 | b5
 ·replace h:=bY b5 h
  refine rn ?_
  refine an (cf (xt (wD (vT (aAi (an (sq (rn ?_))))))))
  refine an (rt ?_)
  cases h
  exact ⟨31,((s1.h 31).1+1),by simp +decide only [xX,F,E,L,reduceIte,EN,TB, *],by simp +decide only [F,reduceIte,EN, *]<;>rfl⟩
 replace h:=cD b5 h
 refine rn ?_
 refine an ?_
 rcases wF (decide (v4<4000)) with b6 | b6
 ·replace h:=bY b6 h
  refine cf (xt (wD (vT (aAi (an (sq (rn ?_)))))))
  refine an (rt ?_)
  cases h
  exact ⟨31,((s1.h 31).1+1),by simp +decide only [xX,F,E,L,reduceIte,EN,TB, *],by simp +decide only [F,reduceIte,EN, *]<;>rfl⟩
 replace h:=cD b6 h
 refine ct (sk (an (sq (bk ?_))))
 obtain ⟨x7,h8,h⟩:=bind_some h
 obtain ⟨q9,q10,q11⟩:=jG h8
 refine rn ?_
 refine ab (an (rn ?_))
 refine iB ⟨mL1,by omega,(i64.wrap (BitVec.ofInt (IntKind.i64.bits) (i64.wrap ((i64.wrap ((i64.wrap (v3*137))+(i64.wrap x7)))+11))&&&BitVec.ofInt (IntKind.i64.bits) 1073741823).toNat),(i64.wrap (v4+1)),?_,?_,?_,h⟩
 all_goals simp +decide only [F,reduceIte,Nat.reduceAdd,qB,qC,EN, *,-h]
instance:bP 31 (type_of% @c31):=⟨@c31⟩
theorem aQE (p0 p1 r) (h:kV p0 p1=some r):Sc 160 [aX (M.Database.en p0),aS p1] [rI r]:=by
 have i1:=inv fun m s=>∃v5:Int,(s.t 1=vS p1∧s.t 2=vP 2 1 0∧s.t 5=vI v5∧s.h 2=(1,oX 32 (M.Database.en p0)))∧gV p0 p1 m v5=some r
 have e1:=@gV.eq_2
 unfold kV at h
 exact sgo 22 [.tmp 4] Tryz.func160
instance:bP 160 (type_of% @aQE):=⟨@aQE⟩
theorem aR2 (p0 r) (h:bN p0=some r):Sc 177 [aX (M.aC.en p0)] [(true,M.aC.rs r)]:=by
 unfold bN at h
 exact sgo 8 [.cell 2 148] Tryz.func177
instance:bP 177 (type_of% @aR2):=⟨@aR2⟩
theorem aR5 (p0 r) (h:pC p0=some r):Sc 405 [aX (M.Item.en p0)] [(true,M.Item.rs r)]:=by
 unfold pC at h
 exact sgo 9 [.cell 2 227] Tryz.func405
instance:bP 405 (type_of% @aR5):=⟨@aR5⟩
theorem aTY (p0 p1 r) (h:oM p0 p1=some r):Sc 309 [aX (M.Response.en p0),aB p1] [rI r]:=by
 unfold oM at h
 exact sgo 10 [.tmp 4] Tryz.func309
instance:bP 309 (type_of% @aTY):=⟨@aTY⟩
theorem aRn (p0 r) (h:oF p0=some r):Sc 163 [aX (M.aE.en p0)] [rI r]:=by
 have i1:=inv fun m s=>∃v3:Int,∃v4:Int,(s.t 1=vP 1 1 0∧s.t 3=vI v3∧s.t 4=vI v4∧s.h 1=(1,oX 28 (M.aE.en p0)))∧dD p0 m v3 v4=some r
 have e1:=@dD.eq_2
 have i2:=fun (v4:Int) (k8:Int→Int→Option Int)=>inv fun m s=>∃v3_L2:Int,∃v5_L2:Int,(s.t 1=vP 1 1 0∧s.t 3=vI v3_L2∧s.t 4=vI v4∧s.t 5=vI v5_L2∧s.h 1=(1,oX 28 (M.aE.en p0)))∧fO p0 v4 k8 m v3_L2 v5_L2=some r
 have e2:=@fO.eq_2
 unfold oF at h
 exact sgo 43 [.tmp 2] Tryz.func163
instance:bP 163 (type_of% @aRn):=⟨@aRn⟩
theorem aRs (p0 r) (h:bH p0=some r):Sc 278 [aX (M.aA.en p0)] [(true,M.aA.rs r)]:=by
 have i1:=aBx [.b 3 1 7050000 227 4] fun m s=>∃v4:Int,∃r50000:List M.Item,∃u50000:Nat,(s.t 1=vP 1 1 0∧s.t 2=vP 2 1 0∧s.t 3=vP 3 1 0∧s.t 4=vI v4∧s.h 1=(1,oX 37 (M.aA.en p0))∧s.h 2=(1,oB 37 [cS (⟨#[]⟩:ByteArray),.nil,cI 0])∧s.h 3=(1,oB 37 [cS p0.Name,.row 7050000 u50000,cI p0.Auto])∧s.h 7050000=(u50000,oW 227 4 M.Item.en r50000))∧kZ p0 m v4 r50000=some r
 have e1:=@kZ.eq_2
 unfold bH at h
 exact sgo 29 [.cell 2 37] Tryz.func278
instance:bP 278 (type_of% @aRs):=⟨@aRs⟩
theorem aQ9 (p0 p1 r) (h:iN p0 p1=some r):Sc 175 [aX (M.aA.en p0),aX (M.Key.en p1)] [rI r]:=by
 have i1:=inv fun m s=>∃v5:Int,(s.t 2=vP 2 1 0∧s.t 3=vP 3 1 0∧s.t 5=vI v5∧s.h 2=(1,oX 37 (M.aA.en p0))∧s.h 3=(1,oX 225 (M.Key.en p1)))∧iS p0 p1 m v5=some r
 have e1:=@iS.eq_2
 unfold iN at h
 exact sgo 22 [.tmp 4] Tryz.func175
instance:bP 175 (type_of% @aQ9):=⟨@aQ9⟩
theorem aRX (p0 r) (h:lR p0=some r):Sc 406 [aX (M.aG.en p0)] [(true,M.aG.rs r)]:=by
 unfold lR at h
 exact sgo 11 [.cell 2 40] Tryz.func406
instance:bP 406 (type_of% @aRX):=⟨@aRX⟩
theorem aSi (p0 r) (h:nU p0=some r):Sc 279 [aX (M.Sync.en p0)] [(true,M.Sync.rs r)]:=by
 unfold nU at h
 exact sgo 10 [.cell 2 42] Tryz.func279
instance:bP 279 (type_of% @aSi):=⟨@aSi⟩
theorem aQP (p0 r) (h:pX p0=some r):Sc 294 [aX (M.Response.en p0)] [(true,M.Response.rs r)]:=by
 unfold pX at h
 exact sgo 11 [.cell 2 219] Tryz.func294
instance:bP 294 (type_of% @aQP):=⟨@aQP⟩
theorem aSk (p0 r) (h:rQ p0=some r):Sc 149 [aX (M.Cache.en p0)] [(true,M.Cache.rs r)]:=by
 have i1:=aBx [.b 3 1 7050000 221 7] fun m s=>∃v4:Int,∃r50000:List M.Cached,∃u50000:Nat,(s.t 1=vP 1 1 0∧s.t 2=vP 2 1 0∧s.t 3=vP 3 1 0∧s.t 4=vI v4∧s.h 1=(1,oX 212 (M.Cache.en p0))∧s.h 2=(1,oB 212 [cI 0,.nil])∧s.h 3=(1,oB 212 [cI p0.Version,.row 7050000 u50000])∧s.h 7050000=(u50000,oW 221 7 M.Cached.en r50000))∧iI p0 m v4 r50000=some r
 have e1:=@iI.eq_2
 unfold rQ at h
 exact sgo 36 [.cell 2 212] Tryz.func149
instance:bP 149 (type_of% @aSk):=⟨@aSk⟩
theorem c47 (p0 r) (h:bX p0=some r):Sc 47 [aX (M.aE.en p0)] [(true,M.aE.rs r)]:=by
 have i1:=aBx [.b 3 0 7050000 212 2] fun m s=>∃v4:Int,∃r50000:List M.Cache,∃u50000:Nat,(s.t 1=vP 1 1 0∧s.t 2=vP 2 1 0∧s.t 3=vP 3 1 0∧s.t 4=vI v4∧s.h 1=(1,oX 28 (M.aE.en p0))∧s.h 2=(1,oB 28 [.nil])∧s.h 3=(1,oB 28 [.row 7050000 u50000])∧s.h 7050000=(u50000,oW 212 2 M.Cache.en r50000))∧jZ p0 m v4 r50000=some r
 have e1:=@jZ.eq_2
 unfold bX at h
 exact sgo 25 [.cell 2 28] Tryz.func47
instance:bP 47 (type_of% @c47):=⟨@c47⟩
theorem aPy (p0 p1 p2 r) (h:sR p0 p1 p2=some r):Sc 356 [aX (M.Cache.en p0),aS p1,aS p2] [rI r]:=by
 have i1:=inv fun m s=>∃v7:Int,(s.t 1=vS p1∧s.t 2=vS p2∧s.t 3=vP 3 1 0∧s.t 7=vI v7∧s.h 3=(1,oX 212 (M.Cache.en p0)))∧hY p0 p1 p2 m v7=some r
 have e1:=@hY.eq_2
 unfold sR at h
 exact sgo 34 [.tmp 6] Tryz.func356
instance:bP 356 (type_of% @aPy):=⟨@aPy⟩
theorem aSo (p0 p1 r) (h:nV p0 p1=some r):Sc 392 [aX (M.Server.en p0),aI p1] [rI r]:=by
 have i1:=inv fun m s=>∃v5:Int,(s.t 1=vI p1∧s.t 2=vP 2 1 0∧s.t 5=vI v5∧s.h 2=(1,oX 274 (M.Server.en p0)))∧lX p0 p1 m v5=some r
 have e1:=@lX.eq_2
 unfold nV at h
 exact sgo 27 [.tmp 4] Tryz.func392
instance:bP 392 (type_of% @aSo):=⟨@aSo⟩
theorem aSG (p0 r) (h:sH p0=some r):Sc 465 [aX (M.aG.en p0)] [(true,M.aT.rs r.1),rB r.2]:=by
 unfold sH at h
 exact sgo 13 [.cell 2 359,.tmp 3] Tryz.func465
instance:bP 465 (type_of% @aSG):=⟨@aSG⟩
theorem c73 (p0 p1 r) (h:eS p0 p1=some r):Sc 73 [aI p0,aI p1] [rI r]:=by
 unfold eS at h
 exact sgo 10 [.tmp 4] Tryz.func73
instance:bP 73 (type_of% @c73):=⟨@c73⟩
end Go.Proofs.YtidhkhdnjonjfaaGreat.gen
