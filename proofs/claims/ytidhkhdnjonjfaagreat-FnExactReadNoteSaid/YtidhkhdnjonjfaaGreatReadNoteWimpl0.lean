/-
  Helper text. No conditions.
-/
import Derived.Test.YtidhkhdnjonjfaaGreatReadNoteTi
set_option linter.unusedVariables false
set_option linter.unusedSimpArgs false
namespace Go.Proofs.YtidhkhdnjonjfaaGreat.gen
open Go Go.Sh
set_option maxRecDepth 20000
set_option maxHeartbeats 4000000
theorem aNV (p0 c0 c1 r) (h:jO p0 c0 c1=some r):Sc 332 [aX (M.Bucket.en p0),(false,[.ptr [.str c0]]),(false,[.ptr [.str c1]])] [rB r]:=by
 unfold jO at h
 exact sgo 15 [.tmp 4] Tryz.func332
instance:bC 332 (type_of% @aNV):=⟨@aNV⟩
theorem aN5 (p0:List M.Bucket) (p1:M.Bucket→Option Bool) (f1_:FuncId) (k1_:List D) (hp1 : ∀z0 r,p1 z0=some r→oM Tryz.prog f1_ ((true,M.Bucket.en z0) ::  k1_.map fun c=>(false,[c])) [(false,[.ro (.bool r)])]) (r:Int) (h:eL p0 p1=some r):Sc 331 [(false,[.sl (List.map M.Bucket.en p0)]),(false,[.fn f1_ k1_])] [rI r]:=by
 unfold eL at h
 simp only [EN]
 refine sgn 19 [.tmp 4] Tryz.func331 fun base wd => ?_
 refine sq (rn ?_)
 refine an (sq (sq (rn ?_)))
 refine an (bk ?_)
 refine aAC (fun m s=>∃v8:Int,s.t 0=vL M.Bucket.en p0∧s.t 1 = .v false [.dat (.fn f1_ k1_)]∧s.t 7=vI (List.length p0:Int)∧s.t 8=vI v8∧bN p0 p1 m v8=some r) fuel ?_ ?_
 ·refine ⟨0,?_,?_,?_,?_,h⟩
  all_goals simp +decide only [F,reduceIte,Nat.reduceAdd,qB,qC,EN, *,-h]
 rintro mL1 s1 ⟨v8,f2,f3,f4,f5,h⟩
 rcases mL1 with _ | mL1
 ·exact absurd h (by simp [bN])
 simp only [bN] at h
 refine sq (rn ?_)
 refine an (sq ?_)
 rcases aGH (decide (v8<(List.length p0:Int))) with b6 | b6
 ·replace h:=jV b6 h
  refine cf (xt (yD (yC (aA4 (an (sq (rn ?_)))))))
  refine an (rt ?_)
  cases h
  simp [Ret,TB,EN, *]
 replace h:=jW b6 h
 refine ct (sk (an (sq (bk (sq (rn ?_))))))
 refine an (sq ?_)
 obtain ⟨x7,h8,h⟩:=bind_some h
 obtain ⟨q9,q10,q11⟩:=mZ h8
 obtain ⟨x12,h13,h⟩:=bind_some h
 refine rn1 (hp1 x7 x12 h13) ?_
 refine an ?_
 rcases wW x12 with b14 | b14
 ·replace h:=jW b14 h
  refine ct (sq (rn ?_))
  refine an (rt ?_)
  cases h
  simp [Ret,TB,EN, *]
 replace h:=jV b14 h
 refine cf (sk (ab (an (rn ?_))))
 refine xS ⟨mL1,by omega,(IntKind.i64.wrap (v8+1)),?_,?_,?_,?_,h⟩
 all_goals simp +decide only [F,reduceIte,Nat.reduceAdd,qB,qC,EN, *,-h]
instance:bC 331 (type_of% @aN5):=⟨@aN5⟩
theorem aQe (p0 p1 p2 r) (h:lW p0 p1 p2=some r):Sc 186 [aX (M.aM.en p0),aS p1,aS p2] [rI r]:=by
 unfold lW at h
 simp only [EN]
 refine sgn 11 [.tmp 6] Tryz.func186 fun base wd => ?_
 refine sq (rn ?_)
 refine an (sq ?_)
 obtain ⟨x1,h2,h⟩:=bind_some h
 refine rn1 (aN5 p0.Buckets (fun z0=>jO z0 p1 p2) 332 [.ptr [.str p1],.ptr [.str p2]] (fun z0 r hr=>aNV z0 p1 p2 r hr) x1 h2) ?_
 refine an (rt ?_)
 cases h
 simp [Ret,TB,EN, *]
instance:bC 186 (type_of% @aQe):=⟨@aQe⟩
theorem c82 (p0 p1 p2 r) (h:vY p0 p1 p2=some r):Sc 82 [aX (M.World.en p0),aS p1,aS p2] [(true,M.Bucket.ra r.1),rB r.2]:=by
 unfold vY at h
 exact sgo 23 [.cell 6 46,.tmp 7] Tryz.func82
instance:bC 82 (type_of% @c82):=⟨@c82⟩
theorem aPE (p0 r) (h:aZ p0=some r):Sc 479 [aX (M.aA.en p0)] [(true,M.aA.rs r)]:=by
 unfold aZ at h
 exact sgo 8 [.cell 2 148] Tryz.func479
instance:bC 479 (type_of% @aPE):=⟨@aPE⟩
theorem aPW (p0 r) (h:mK p0=some r):Sc 415 [aX (M.Item.en p0)] [(true,M.Item.rs r)]:=by
 unfold mK at h
 exact sgo 9 [.cell 2 227] Tryz.func415
instance:bC 415 (type_of% @aPW):=⟨@aPW⟩
theorem aMY (p0 r) (h:aP p0=some r):Sc 333 [aX (M.aC.en p0)] [(true,M.aC.rs r)]:=by
 have i1:=aHv [.b 3 1 7050000 227 4] fun m s=>∃v14:Int,∃r50000:List M.Item,∃u50000:Nat,(s.t 2=vP 2 1 0∧s.t 3=vP 3 1 0∧s.t 12=vL M.Item.en p0.Items∧s.t 13=vI (List.length p0.Items:Int)∧s.t 14=vI v14∧s.h 2=(1,oB 37 [cS (⟨#[]⟩:ByteArray),.nil,cI 0])∧s.h 3=(1,oB 37 [cS p0.Name,.row 7050000 u50000,cI p0.Auto])∧s.h 7050000=(u50000,oW 227 4 M.Item.en r50000))∧eS p0 m v14 r50000=some r
 have e1:=@eS.eq_2
 unfold aP at h
 exact sgo 27 [.cell 2 37] Tryz.func333
instance:bC 333 (type_of% @aMY):=⟨@aMY⟩
theorem aK0 (p0 r) (h:cK p0=some r):Sc 187 [aX (M.Database.en p0)] [(true,M.Database.rs r)]:=by
 have i1:=aHv [.b 3 2 7050000 37 3] fun m s=>∃v18:Int,∃r50000:List M.aC,∃u50000:Nat,(s.t 2=vP 2 1 0∧s.t 3=vP 3 1 0∧s.t 16=vL M.aC.en p0.Stores∧s.t 17=vI (List.length p0.Stores:Int)∧s.t 18=vI v18∧s.h 2=(1,aJh)∧s.h 3=(1,oB 32 [cS p0.Name,cI p0.Version,.row 7050000 u50000,.row 100010 2])∧s.h 100010=(2,oW 239 2 M.aE.en p0.Unique)∧s.h 7050000=(u50000,oW 37 3 M.aC.en r50000))∧dL p0 m v18 r50000=some r
 have e1:=@dL.eq_2
 unfold cK at h
 exact sgo 31 [.cell 2 32] Tryz.func187
instance:bC 187 (type_of% @aK0):=⟨@aK0⟩
theorem aMJ (p0 p1 r) (h:cZ p0 p1=some r):Sc 335 [aL enB p0,aI p1] [rI r.1,rI r.2.1,rB r.2.2]:=by
 have i1:=inv fun m s=>∃v7:Int,∃v8:Int,(s.t 0=vL enB p0∧s.t 1=vI p1∧s.t 7=vI v7∧s.t 8=vI v8)∧dX p0 p1 m v7 v8=some r
 have e1:=@dX.eq_2
 unfold cZ at h
 exact sgo 61 [.tmp 4,.tmp 5,.tmp 6] Tryz.func335
instance:bC 335 (type_of% @aMJ):=⟨@aMJ⟩
theorem aRM (p0 r) (h:kH p0=some r):Sc 403 [aL enB p0] [rW 5 1 enB r]:=by
 unfold kH at h
 exact sgo 6 [.tmp 2] Tryz.func403
instance:bC 403 (type_of% @aRM):=⟨@aRM⟩
theorem aLh (p0 p1 p2 r) (h:cD p0 p1 p2=some r):Sc 334 [aL enB p0,aI p1,aI p2] [rW 5 1 enB r.1,rI r.2.1,rB r.2.2]:=by
 unfold cD at h
 exact sgo 45 [.tmp 6,.tmp 7,.tmp 8] Tryz.func334
instance:bC 334 (type_of% @aLh):=⟨@aLh⟩
theorem aQT (p0 r) (h:lE p0=some r):Sc 438 [aL enB p0] [rW 3 1 enI r]:=by
 have i1:=inv fun m s=>∃v11:Int,∃r8:List Int,∃u8:Nat,(s.t 3=vR 100008 u8∧s.t 9=vL enB p0∧s.t 10=vI (List.length p0:Int)∧s.t 11=vI v11∧s.h 100008=(u8,oW 3 1 enI r8))∧dV p0 m v11 r8=some r
 have e1:=@dV.eq_2
 unfold lE at h
 exact sgo 22 [.tmp 2] Tryz.func438
instance:bC 438 (type_of% @aQT):=⟨@aQT⟩
theorem c54 (p0 p1 p2 r) (h:cX p0 p1 p2=some r):Sc 54 [aI p0,aI p1,aI p2] [rB r]:=by
 unfold cX at h
 exact sgo 15 [.tmp 6] Tryz.func54
instance:bC 54 (type_of% @c54):=⟨@c54⟩
theorem aQZ (p0 p1 r) (h:zZ p0 p1=some r):Sc 495 [aI p0,aI p1] [rI r]:=by
 unfold zZ at h
 exact sgo 18 [.tmp 4] Tryz.func495
instance:bC 495 (type_of% @aQZ):=⟨@aQZ⟩
theorem aQj (p0 r) (h:yV p0=some r):Sc 437 [aL enI p0] [rI r]:=by
 have i1:=inv fun m s=>∃v3:Int,∃v8:Int,(s.t 3=vI v3∧s.t 6=vL enI p0∧s.t 7=vI (List.length p0:Int)∧s.t 8=vI v8)∧lO p0 m v3 v8=some r
 have e1:=@lO.eq_2
 unfold yV at h
 exact sgo 21 [.tmp 2] Tryz.func437
instance:bC 437 (type_of% @aQj):=⟨@aQj⟩
theorem aPL (p0 p1 r) (h:rT p0 p1=some r):Sc 336 [aI p0,aL enB p1] [rI r]:=by
 unfold rT at h
 exact sgo 11 [.tmp 4] Tryz.func336
instance:bC 336 (type_of% @aPL):=⟨@aPL⟩
theorem aM5 (p0 r) (h:tZ p0=some r):Sc 188 [aL enB p0] [rW 22 1 (enL enB) r.1,rI r.2]:=by
 have i1:=inv fun m s=>∃v5:Int,∃r12:List (List Int),∃u12:Nat,(s.t 0=vL enB p0∧s.t 4=vR 100012 u12∧s.t 5=vI v5∧s.h 100012=(u12,oW 22 1 (enL enB) r12))∧jE p0 m v5 r12=some r
 have e1:=@jE.eq_2
 unfold tZ at h
 exact sgo 48 [.tmp 2,.tmp 3] Tryz.func188
instance:bC 188 (type_of% @aM5):=⟨@aM5⟩
theorem aOS (p0 r) (h:nG p0=some r):Sc 410 [aS p0] [rB r]:=by
 have i1:=inv fun m s=>∃v3:Int,(s.t 0=vS p0∧s.t 3=vI v3)∧cJ p0 m v3=some r
 have e1:=@cJ.eq_2
 unfold nG at h
 exact sgo 36 [.tmp 2] Tryz.func410
instance:bC 410 (type_of% @aOS):=⟨@aOS⟩
end Go.Proofs.YtidhkhdnjonjfaaGreat.gen
