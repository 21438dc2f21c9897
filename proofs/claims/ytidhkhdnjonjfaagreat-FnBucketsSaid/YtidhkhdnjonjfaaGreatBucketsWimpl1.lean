/-
  Helper text. No conditions.
-/
import Derived.Test.YtidhkhdnjonjfaaGreatBucketsTi
set_option linter.unusedVariables false
set_option linter.unusedSimpArgs false
namespace Go.Proofs.YtidhkhdnjonjfaaGreat.gen
open Go Go.Sh
set_option maxRecDepth 20000
set_option maxHeartbeats 4000000
theorem aQg (p0 c0 c1 r) (h:pI p0 c0 c1=some r):Sc 297 [aX (M.Cached.en p0),(false,[.ptr [.str c0]]),(false,[.ptr [.str c1]])] [rB r]:=by
 unfold pI at h
 exact sgo 15 [.tmp 4] Tryz.func297
instance:bP 297 (type_of% @aQg):=⟨@aQg⟩
theorem aRS (p0 p1 r) (h:nB p0 p1=some r):Sc 411 [aI p0,aI p1] [rI r]:=by
 unfold nB at h
 exact sgo 13 [.tmp 4] Tryz.func411
instance:bP 411 (type_of% @aRS):=⟨@aRS⟩
theorem aQp (p0:List M.aA) (p1:M.aA→Option Bool) (f1_:FuncId) (k1_:List D) (hp1 : ∀z0 r,p1 z0=some r→jJ Tryz.prog f1_ ((true,M.aA.en z0) ::  k1_.map fun c=>(false,[c])) [(false,[.ro (.bool r)])]) (r:Int) (h:hH p0 p1=some r):Sc 299 [(false,[.sl (List.map M.aA.en p0)]),(false,[.fn f1_ k1_])] [rI r]:=by
 unfold hH at h
 simp only [EN]
 refine sgn 19 [.tmp 4] Tryz.func299 fun base wd => ?_
 refine sq (rn ?_)
 refine an (sq (sq (rn ?_)))
 refine an (bk ?_)
 refine wH (fun m s=>∃v8:Int,s.t 0=vL M.aA.en p0∧s.t 1 = .v false [.dat (.fn f1_ k1_)]∧s.t 7=vI (List.length p0:Int)∧s.t 8=vI v8∧bV p0 p1 m v8=some r) fuel ?_ ?_
 ·refine ⟨0,?_,?_,?_,?_,h⟩
  all_goals simp +decide only [F,reduceIte,Nat.reduceAdd,qB,qC,EN, *,-h]
 rintro mL1 s1 ⟨v8,f2,f3,f4,f5,h⟩
 rcases mL1 with _ | mL1
 ·exact absurd h (by simp [bV])
 simp only [bV] at h
 refine sq (rn ?_)
 refine an (sq ?_)
 rcases wF (decide (v8<(List.length p0:Int))) with b6 | b6
 ·replace h:=bY b6 h
  refine cf (xt (wD (vT (aAi (an (sq (rn ?_)))))))
  refine an (rt ?_)
  cases h
  simp [Ret,TB,EN, *]
 replace h:=cD b6 h
 refine ct (sk (an (sq (bk (sq (rn ?_))))))
 refine an (sq ?_)
 obtain ⟨x7,h8,h⟩:=bind_some h
 obtain ⟨q9,q10,q11⟩:=jG h8
 obtain ⟨x12,h13,h⟩:=bind_some h
 refine rn1 (hp1 x7 x12 h13) ?_
 refine an ?_
 rcases lN x12 with b14 | b14
 ·replace h:=cD b14 h
  refine ct (sq (rn ?_))
  refine an (rt ?_)
  cases h
  simp [Ret,TB,EN, *]
 replace h:=bY b14 h
 refine cf (sk (ab (an (rn ?_))))
 refine iB ⟨mL1,by omega,(IntKind.i64.wrap (v8+1)),?_,?_,?_,?_,h⟩
 all_goals simp +decide only [F,reduceIte,Nat.reduceAdd,qB,qC,EN, *,-h]
instance:bP 299 (type_of% @aQp):=⟨@aQp⟩
theorem aQj (p0 c0 r) (h:pF p0 c0=some r):Sc 344 [aX (M.Field.en p0),(false,[.ptr [.str c0]])] [rB r]:=by
 unfold pF at h
 exact sgo 8 [.tmp 3] Tryz.func344
instance:bP 344 (type_of% @aQj):=⟨@aQj⟩
theorem aQF (p0:List M.Field) (p1:M.Field→Option Bool) (f1_:FuncId) (k1_:List D) (hp1 : ∀z0 r,p1 z0=some r→jJ Tryz.prog f1_ ((true,M.Field.en z0) ::  k1_.map fun c=>(false,[c])) [(false,[.ro (.bool r)])]) (r:Int) (h:hT p0 p1=some r):Sc 343 [(false,[.sl (List.map M.Field.en p0)]),(false,[.fn f1_ k1_])] [rI r]:=by
 unfold hT at h
 simp only [EN]
 refine sgn 19 [.tmp 4] Tryz.func343 fun base wd => ?_
 refine sq (rn ?_)
 refine an (sq (sq (rn ?_)))
 refine an (bk ?_)
 refine wH (fun m s=>∃v8:Int,s.t 0=vL M.Field.en p0∧s.t 1 = .v false [.dat (.fn f1_ k1_)]∧s.t 7=vI (List.length p0:Int)∧s.t 8=vI v8∧bU p0 p1 m v8=some r) fuel ?_ ?_
 ·refine ⟨0,?_,?_,?_,?_,h⟩
  all_goals simp +decide only [F,reduceIte,Nat.reduceAdd,qB,qC,EN, *,-h]
 rintro mL1 s1 ⟨v8,f2,f3,f4,f5,h⟩
 rcases mL1 with _ | mL1
 ·exact absurd h (by simp [bU])
 simp only [bU] at h
 refine sq (rn ?_)
 refine an (sq ?_)
 rcases wF (decide (v8<(List.length p0:Int))) with b6 | b6
 ·replace h:=bY b6 h
  refine cf (xt (wD (vT (aAi (an (sq (rn ?_)))))))
  refine an (rt ?_)
  cases h
  simp [Ret,TB,EN, *]
 replace h:=cD b6 h
 refine ct (sk (an (sq (bk (sq (rn ?_))))))
 refine an (sq ?_)
 obtain ⟨x7,h8,h⟩:=bind_some h
 obtain ⟨q9,q10,q11⟩:=jG h8
 obtain ⟨x12,h13,h⟩:=bind_some h
 refine rn1 (hp1 x7 x12 h13) ?_
 refine an ?_
 rcases lN x12 with b14 | b14
 ·replace h:=cD b14 h
  refine ct (sq (rn ?_))
  refine an (rt ?_)
  cases h
  simp [Ret,TB,EN, *]
 replace h:=bY b14 h
 refine cf (sk (ab (an (rn ?_))))
 refine iB ⟨mL1,by omega,(IntKind.i64.wrap (v8+1)),?_,?_,?_,?_,h⟩
 all_goals simp +decide only [F,reduceIte,Nat.reduceAdd,qB,qC,EN, *,-h]
instance:bP 343 (type_of% @aQF):=⟨@aQF⟩
theorem aTW (p0 r) (h:iZ p0=some r):Sc 403 [aL enB p0] [rW 5 1 enB r]:=by
 unfold iZ at h
 exact sgo 6 [.tmp 2] Tryz.func403
instance:bP 403 (type_of% @aTW):=⟨@aTW⟩
theorem aRd (p0 r) (h:oU p0=some r):Sc 474 [aX (M.aG.en p0)] [(true,M.aG.rs r)]:=by
 unfold oU at h
 exact sgo 9 [.cell 2 40] Tryz.func474
instance:bP 474 (type_of% @aRd):=⟨@aRd⟩
theorem aQS (p0:List M.Cache) (p1:List M.Cache) (p2:M.Cache→M.Cache→Option Bool) (f2_:FuncId) (k2_:List D) (hp2 : ∀z0 z1 r,p2 z0 z1=some r→jJ Tryz.prog f2_ ((true,M.Cache.en z0)::(true,M.Cache.en z1) ::  k2_.map fun c=>(false,[c])) [(false,[.ro (.bool r)])]) (r:Bool) (h:hE p0 p1 p2=some r):Sc 135 [(false,[.sl (List.map M.Cache.en p0)]),(false,[.sl (List.map M.Cache.en p1)]),(false,[.fn f2_ k2_])] [rB r]:=by
 unfold hE at h
 simp only [EN]
 refine sgn 32 [.tmp 6] Tryz.func135 fun base wd => ?_
 refine sq (rn ?_)
 refine an (sq (sq (rn ?_)))
 refine an ?_
 rcases lN ((List.length p0:Int) != (List.length p1:Int)) with b1 | b1
 ·replace h:=cD b1 h
  refine ct (sq (rn ?_))
  refine an (rt ?_)
  cases h
  simp [Ret,TB,EN, *]
 replace h:=bY b1 h
 refine cf (sk (an (sq (sq (rn ?_)))))
 refine an (bk ?_)
 refine wH (fun m s=>∃v17:Int,s.t 1=vL M.Cache.en p1∧s.t 2 = .v false [.dat (.fn f2_ k2_)]∧s.t 15=vL M.Cache.en p0∧s.t 16=vI (List.length p0:Int)∧s.t 17=vI v17∧cN p0 p1 p2 m v17=some r) fuel ?_ ?_
 ·refine ⟨0,?_,?_,?_,?_,?_,h⟩
  all_goals simp +decide only [F,reduceIte,Nat.reduceAdd,qB,qC,EN, *,-h]
 rintro mL1 s2 ⟨v17,f3,f4,f5,f6,f7,h⟩
 rcases mL1 with _ | mL1
 ·exact absurd h (by simp [cN])
 simp only [cN] at h
 refine sq (rn ?_)
 refine an (sq ?_)
 rcases wF (decide (v17<(List.length p0:Int))) with b8 | b8
 ·replace h:=bY b8 h
  refine cf (xt (wD (vT (aAi (an (sq (rn ?_)))))))
  refine an (rt ?_)
  cases h
  simp [Ret,TB,EN, *]
 replace h:=cD b8 h
 refine ct (sk (an (sq (bk (sq ?_)))))
 obtain ⟨x9,h10,h⟩:=bind_some h
 obtain ⟨q11,q12,q13⟩:=jG h10
 refine rn ?_
 refine an (sq ?_)
 obtain ⟨x14,h15,h⟩:=bind_some h
 obtain ⟨q16,q17,q18⟩:=jG h15
 refine rn ?_
 refine an (sq ?_)
 obtain ⟨x19,h20,h⟩:=bind_some h
 refine rn1 (hp2 x9 x14 x19 h20) ?_
 refine an ?_
 rcases lN (!x19) with b21 | b21
 ·replace h:=cD b21 h
  refine ct (sq (rn ?_))
  refine an (rt ?_)
  cases h
  simp [Ret,TB,EN, *]
 replace h:=bY b21 h
 refine cf (sk (ab (an (rn ?_))))
 refine iB ⟨mL1,by omega,(IntKind.i64.wrap (v17+1)),?_,?_,?_,?_,?_,h⟩
 all_goals simp +decide only [F,reduceIte,Nat.reduceAdd,qB,qC,EN, *,-h]
instance:bP 135 (type_of% @aQS):=⟨@aQS⟩
theorem aRE (p0 p1 r) (h:mN p0 p1=some r):Sc 284 [aL enB p0,aL enB p1] [rB r]:=by
 have i1:=inv fun m s=>∃v13:Int,(s.t 0=vL enB p0∧s.t 1=vL enB p1∧s.t 12=vI (List.length p0:Int)∧s.t 13=vI v13)∧fW p0 p1 m v13=some r
 have e1:=@fW.eq_2
 unfold mN at h
 exact sgo 26 [.tmp 4] Tryz.func284
instance:bP 284 (type_of% @aRE):=⟨@aRE⟩
theorem aPj (p0:List M.aA) (p1:List M.aA) (p2:M.aA→M.aA→Option Bool) (f2_:FuncId) (k2_:List D) (hp2 : ∀z0 z1 r,p2 z0 z1=some r→jJ Tryz.prog f2_ ((true,M.aA.en z0)::(true,M.aA.en z1) ::  k2_.map fun c=>(false,[c])) [(false,[.ro (.bool r)])]) (r:Bool) (h:hZ p0 p1 p2=some r):Sc 282 [(false,[.sl (List.map M.aA.en p0)]),(false,[.sl (List.map M.aA.en p1)]),(false,[.fn f2_ k2_])] [rB r]:=by
 unfold hZ at h
 simp only [EN]
 refine sgn 32 [.tmp 6] Tryz.func282 fun base wd => ?_
 refine sq (rn ?_)
 refine an (sq (sq (rn ?_)))
 refine an ?_
 rcases lN ((List.length p0:Int) != (List.length p1:Int)) with b1 | b1
 ·replace h:=cD b1 h
  refine ct (sq (rn ?_))
  refine an (rt ?_)
  cases h
  simp [Ret,TB,EN, *]
 replace h:=bY b1 h
 refine cf (sk (an (sq (sq (rn ?_)))))
 refine an (bk ?_)
 refine wH (fun m s=>∃v17:Int,s.t 1=vL M.aA.en p1∧s.t 2 = .v false [.dat (.fn f2_ k2_)]∧s.t 15=vL M.aA.en p0∧s.t 16=vI (List.length p0:Int)∧s.t 17=vI v17∧cM p0 p1 p2 m v17=some r) fuel ?_ ?_
 ·refine ⟨0,?_,?_,?_,?_,?_,h⟩
  all_goals simp +decide only [F,reduceIte,Nat.reduceAdd,qB,qC,EN, *,-h]
 rintro mL1 s2 ⟨v17,f3,f4,f5,f6,f7,h⟩
 rcases mL1 with _ | mL1
 ·exact absurd h (by simp [cM])
 simp only [cM] at h
 refine sq (rn ?_)
 refine an (sq ?_)
 rcases wF (decide (v17<(List.length p0:Int))) with b8 | b8
 ·replace h:=bY b8 h
  refine cf (xt (wD (vT (aAi (an (sq (rn ?_)))))))
  refine an (rt ?_)
  cases h
  simp [Ret,TB,EN, *]
 replace h:=cD b8 h
 refine ct (sk (an (sq (bk (sq ?_)))))
 obtain ⟨x9,h10,h⟩:=bind_some h
 obtain ⟨q11,q12,q13⟩:=jG h10
 refine rn ?_
 refine an (sq ?_)
 obtain ⟨x14,h15,h⟩:=bind_some h
 obtain ⟨q16,q17,q18⟩:=jG h15
 refine rn ?_
 refine an (sq ?_)
 obtain ⟨x19,h20,h⟩:=bind_some h
 refine rn1 (hp2 x9 x14 x19 h20) ?_
 refine an ?_
 rcases lN (!x19) with b21 | b21
 ·replace h:=cD b21 h
  refine ct (sq (rn ?_))
  refine an (rt ?_)
  cases h
  simp [Ret,TB,EN, *]
 replace h:=bY b21 h
 refine cf (sk (ab (an (rn ?_))))
 refine iB ⟨mL1,by omega,(IntKind.i64.wrap (v17+1)),?_,?_,?_,?_,?_,h⟩
 all_goals simp +decide only [F,reduceIte,Nat.reduceAdd,qB,qC,EN, *,-h]
instance:bP 282 (type_of% @aPj):=⟨@aPj⟩
theorem aRJ (p0 p1 r) (h:lF p0 p1=some r):Sc 475 [aL M.Field.en p0,aL M.Field.en p1] [rB r]:=by
 have i1:=inv fun m s=>∃v13:Int,(s.t 0=vL M.Field.en p0∧s.t 1=vL M.Field.en p1∧s.t 12=vI (List.length p0:Int)∧s.t 13=vI v13)∧fI p0 p1 m v13=some r
 have e1:=@fI.eq_2
 unfold lF at h
 exact sgo 26 [.tmp 4] Tryz.func475
instance:bP 475 (type_of% @aRJ):=⟨@aRJ⟩
end Go.Proofs.YtidhkhdnjonjfaaGreat.gen
