/-
  Helper text. No conditions.
-/
import Derived.Test.YtidhkhdnjonjfaaGreatBucketsTi
set_option linter.unusedVariables false
set_option linter.unusedSimpArgs false
namespace Go.Proofs.YtidhkhdnjonjfaaGreat.gen
open Go Go.Sh
set_option maxRecDepth 20000
set_option maxHeartbeats 4000000
theorem c54 (p0 p1 p2 r) (h:bA p0 p1 p2=some r):Sc 54 [aI p0,aI p1,aI p2] [rB r]:=by
 unfold bA at h
 exact sgo 15 [.tmp 6] Tryz.func54
instance:bP 54 (type_of% @c54):=⟨@c54⟩
theorem aQI (p0:List M.Cached) (p1:M.Cached→Option Bool) (f1_:FuncId) (k1_:List D) (hp1 : ∀z0 r,p1 z0=some r→jJ Tryz.prog f1_ ((true,M.Cached.en z0) ::  k1_.map fun c=>(false,[c])) [(false,[.ro (.bool r)])]) (r:Int) (h:gC p0 p1=some r):Sc 296 [(false,[.sl (List.map M.Cached.en p0)]),(false,[.fn f1_ k1_])] [rI r]:=by
 unfold gC at h
 simp only [EN]
 refine sgn 19 [.tmp 4] Tryz.func296 fun base wd => ?_
 refine sq (rn ?_)
 refine an (sq (sq (rn ?_)))
 refine an (bk ?_)
 refine wH (fun m s=>∃v8:Int,s.t 0=vL M.Cached.en p0∧s.t 1 = .v false [.dat (.fn f1_ k1_)]∧s.t 7=vI (List.length p0:Int)∧s.t 8=vI v8∧bQ p0 p1 m v8=some r) fuel ?_ ?_
 ·refine ⟨0,?_,?_,?_,?_,h⟩
  all_goals simp +decide only [F,reduceIte,Nat.reduceAdd,qB,qC,EN, *,-h]
 rintro mL1 s1 ⟨v8,f2,f3,f4,f5,h⟩
 rcases mL1 with _ | mL1
 ·exact absurd h (by simp [bQ])
 simp only [bQ] at h
 refine sq (rn ?_)
 refine an (sq ?_)
 rcases wF (decide (v8<(List.length p0:Int))) with b6 | b6
 ·replace h:=bY b6 h
  refine cf (xt (wD (vT (aAi (an (sq (rn ?_)))))))
  refine an (rt ?_)
  cases h
  simp [Ret,TB,EN, *]
 replace h:=cD b6 h
 refine ct (sk (an (sq (bk (sq (rn ?_))))))
 refine an (sq ?_)
 obtain ⟨x7,h8,h⟩:=bind_some h
 obtain ⟨q9,q10,q11⟩:=jG h8
 obtain ⟨x12,h13,h⟩:=bind_some h
 refine rn1 (hp1 x7 x12 h13) ?_
 refine an ?_
 rcases lN x12 with b14 | b14
 ·replace h:=cD b14 h
  refine ct (sq (rn ?_))
  refine an (rt ?_)
  cases h
  simp [Ret,TB,EN, *]
 replace h:=bY b14 h
 refine cf (sk (ab (an (rn ?_))))
 refine iB ⟨mL1,by omega,(IntKind.i64.wrap (v8+1)),?_,?_,?_,?_,h⟩
 all_goals simp +decide only [F,reduceIte,Nat.reduceAdd,qB,qC,EN, *,-h]
instance:bP 296 (type_of% @aQI):=⟨@aQI⟩
theorem aRC (p0 r) (h:pG p0=some r):Sc 410 [aS p0] [rB r]:=by
 have i1:=inv fun m s=>∃v3:Int,(s.t 0=vS p0∧s.t 3=vI v3)∧dA p0 m v3=some r
 have e1:=@dA.eq_2
 unfold pG at h
 exact sgo 36 [.tmp 2] Tryz.func410
instance:bP 410 (type_of% @aRC):=⟨@aRC⟩
set_option maxRecDepth 100000 in
set_option maxHeartbeats 4000000 in
theorem aSP (p0:ByteArray) (p1:ByteArray) (r:Int) (h:jE p0 p1=some r):jJ Tryz.prog 476 [(false,[.str p0]),(false,[.str p1])] [(false,[.ro (.int .i64 r)])]:=by
 refine aIK Tryz.func476 rfl (by decide +kernel) fun w => ?_
 cases h
 go_enter Tryz.func476,Tryz.ntmps476
 go_wp2
 rw [run_callFunc_extern Tryz.func509 (by kernel_rfl) (by kernel_rfl) (by kernel_rfl) (e:=Extern.BytealgCompare.compare) (by kernel_rfl),Lib.run_compareString]
 simp only [Result.andThen]
 rw [Oper.upon_value]
 go_wp2
 go_ret
 exact ⟨rfl,rfl⟩
instance:bP 476 (type_of% @aSP):=⟨@aSP⟩
theorem aQm (p0 c0 r) (h:nE p0 c0=some r):Sc 300 [aX (M.aA.en p0),(false,[.ptr [.str c0]])] [rB r]:=by
 unfold nE at h
 exact sgo 8 [.tmp 3] Tryz.func300
instance:bP 300 (type_of% @aQm):=⟨@aQm⟩
theorem aSt (p0 p1 r) (h:iL p0 p1=some r):Sc 301 [aL M.aH.en p0,aX (M.aH.en p1)] [rI r]:=by
 have i1:=inv fun m s=>∃v8:Int,(s.t 0=vL M.aH.en p0∧s.t 3=vP 3 1 0∧s.t 7=vI (List.length p0:Int)∧s.t 8=vI v8∧s.h 3=(1,oX 239 (M.aH.en p1)))∧cR p0 p1 m v8=some r
 have e1:=@cR.eq_2
 unfold iL at h
 exact sgo 19 [.tmp 4] Tryz.func301
instance:bP 301 (type_of% @aSt):=⟨@aSt⟩
theorem aRj (p0 r) (h:oP p0=some r):Sc 479 [aX (M.aC.en p0)] [(true,M.aC.rs r)]:=by
 unfold oP at h
 exact sgo 8 [.cell 2 148] Tryz.func479
instance:bP 479 (type_of% @aRj):=⟨@aRj⟩
theorem aSl (p0 p1 r) (h:oY p0 p1=some r):Sc 141 [aX (M.Response.en p0),aB p1] [rI r]:=by
 unfold oY at h
 exact sgo 10 [.tmp 4] Tryz.func141
instance:bP 141 (type_of% @aSl):=⟨@aSl⟩
theorem aQY (p0:List M.Cached) (p1:List M.Cached) (p2:M.Cached→M.Cached→Option Bool) (f2_:FuncId) (k2_:List D) (hp2 : ∀z0 z1 r,p2 z0 z1=some r→jJ Tryz.prog f2_ ((true,M.Cached.en z0)::(true,M.Cached.en z1) ::  k2_.map fun c=>(false,[c])) [(false,[.ro (.bool r)])]) (r:Bool) (h:fY p0 p1 p2=some r):Sc 280 [(false,[.sl (List.map M.Cached.en p0)]),(false,[.sl (List.map M.Cached.en p1)]),(false,[.fn f2_ k2_])] [rB r]:=by
 unfold fY at h
 simp only [EN]
 refine sgn 32 [.tmp 6] Tryz.func280 fun base wd => ?_
 refine sq (rn ?_)
 refine an (sq (sq (rn ?_)))
 refine an ?_
 rcases lN ((List.length p0:Int) != (List.length p1:Int)) with b1 | b1
 ·replace h:=cD b1 h
  refine ct (sq (rn ?_))
  refine an (rt ?_)
  cases h
  simp [Ret,TB,EN, *]
 replace h:=bY b1 h
 refine cf (sk (an (sq (sq (rn ?_)))))
 refine an (bk ?_)
 refine wH (fun m s=>∃v17:Int,s.t 1=vL M.Cached.en p1∧s.t 2 = .v false [.dat (.fn f2_ k2_)]∧s.t 15=vL M.Cached.en p0∧s.t 16=vI (List.length p0:Int)∧s.t 17=vI v17∧cF p0 p1 p2 m v17=some r) fuel ?_ ?_
 ·refine ⟨0,?_,?_,?_,?_,?_,h⟩
  all_goals simp +decide only [F,reduceIte,Nat.reduceAdd,qB,qC,EN, *,-h]
 rintro mL1 s2 ⟨v17,f3,f4,f5,f6,f7,h⟩
 rcases mL1 with _ | mL1
 ·exact absurd h (by simp [cF])
 simp only [cF] at h
 refine sq (rn ?_)
 refine an (sq ?_)
 rcases wF (decide (v17<(List.length p0:Int))) with b8 | b8
 ·replace h:=bY b8 h
  refine cf (xt (wD (vT (aAi (an (sq (rn ?_)))))))
  refine an (rt ?_)
  cases h
  simp [Ret,TB,EN, *]
 replace h:=cD b8 h
 refine ct (sk (an (sq (bk (sq ?_)))))
 obtain ⟨x9,h10,h⟩:=bind_some h
 obtain ⟨q11,q12,q13⟩:=jG h10
 refine rn ?_
 refine an (sq ?_)
 obtain ⟨x14,h15,h⟩:=bind_some h
 obtain ⟨q16,q17,q18⟩:=jG h15
 refine rn ?_
 refine an (sq ?_)
 obtain ⟨x19,h20,h⟩:=bind_some h
 refine rn1 (hp2 x9 x14 x19 h20) ?_
 refine an ?_
 rcases lN (!x19) with b21 | b21
 ·replace h:=cD b21 h
  refine ct (sq (rn ?_))
  refine an (rt ?_)
  cases h
  simp [Ret,TB,EN, *]
 replace h:=bY b21 h
 refine cf (sk (ab (an (rn ?_))))
 refine iB ⟨mL1,by omega,(IntKind.i64.wrap (v17+1)),?_,?_,?_,?_,?_,h⟩
 all_goals simp +decide only [F,reduceIte,Nat.reduceAdd,qB,qC,EN, *,-h]
instance:bP 280 (type_of% @aQY):=⟨@aQY⟩
theorem aQy (p0:List M.Item) (p1:List M.Item) (p2:M.Item→M.Item→Option Bool) (f2_:FuncId) (k2_:List D) (hp2 : ∀z0 z1 r,p2 z0 z1=some r→jJ Tryz.prog f2_ ((true,M.Item.en z0)::(true,M.Item.en z1) ::  k2_.map fun c=>(false,[c])) [(false,[.ro (.bool r)])]) (r:Bool) (h:iH p0 p1 p2=some r):Sc 285 [(false,[.sl (List.map M.Item.en p0)]),(false,[.sl (List.map M.Item.en p1)]),(false,[.fn f2_ k2_])] [rB r]:=by
 unfold iH at h
 simp only [EN]
 refine sgn 32 [.tmp 6] Tryz.func285 fun base wd => ?_
 refine sq (rn ?_)
 refine an (sq (sq (rn ?_)))
 refine an ?_
 rcases lN ((List.length p0:Int) != (List.length p1:Int)) with b1 | b1
 ·replace h:=cD b1 h
  refine ct (sq (rn ?_))
  refine an (rt ?_)
  cases h
  simp [Ret,TB,EN, *]
 replace h:=bY b1 h
 refine cf (sk (an (sq (sq (rn ?_)))))
 refine an (bk ?_)
 refine wH (fun m s=>∃v17:Int,s.t 1=vL M.Item.en p1∧s.t 2 = .v false [.dat (.fn f2_ k2_)]∧s.t 15=vL M.Item.en p0∧s.t 16=vI (List.length p0:Int)∧s.t 17=vI v17∧cT p0 p1 p2 m v17=some r) fuel ?_ ?_
 ·refine ⟨0,?_,?_,?_,?_,?_,h⟩
  all_goals simp +decide only [F,reduceIte,Nat.reduceAdd,qB,qC,EN, *,-h]
 rintro mL1 s2 ⟨v17,f3,f4,f5,f6,f7,h⟩
 rcases mL1 with _ | mL1
 ·exact absurd h (by simp [cT])
 simp only [cT] at h
 refine sq (rn ?_)
 refine an (sq ?_)
 rcases wF (decide (v17<(List.length p0:Int))) with b8 | b8
 ·replace h:=bY b8 h
  refine cf (xt (wD (vT (aAi (an (sq (rn ?_)))))))
  refine an (rt ?_)
  cases h
  simp [Ret,TB,EN, *]
 replace h:=cD b8 h
 refine ct (sk (an (sq (bk (sq ?_)))))
 obtain ⟨x9,h10,h⟩:=bind_some h
 obtain ⟨q11,q12,q13⟩:=jG h10
 refine rn ?_
 refine an (sq ?_)
 obtain ⟨x14,h15,h⟩:=bind_some h
 obtain ⟨q16,q17,q18⟩:=jG h15
 refine rn ?_
 refine an (sq ?_)
 obtain ⟨x19,h20,h⟩:=bind_some h
 refine rn1 (hp2 x9 x14 x19 h20) ?_
 refine an ?_
 rcases lN (!x19) with b21 | b21
 ·replace h:=cD b21 h
  refine ct (sq (rn ?_))
  refine an (rt ?_)
  cases h
  simp [Ret,TB,EN, *]
 replace h:=bY b21 h
 refine cf (sk (ab (an (rn ?_))))
 refine iB ⟨mL1,by omega,(IntKind.i64.wrap (v17+1)),?_,?_,?_,?_,?_,h⟩
 all_goals simp +decide only [F,reduceIte,Nat.reduceAdd,qB,qC,EN, *,-h]
instance:bP 285 (type_of% @aQy):=⟨@aQy⟩
theorem aP8 (p0 p1 r) (h:iP p0 p1=some r):Sc 283 [aL M.aH.en p0,aL M.aH.en p1] [rB r]:=by
 have i1:=inv fun m s=>∃v13:Int,(s.t 0=vL M.aH.en p0∧s.t 1=vL M.aH.en p1∧s.t 12=vI (List.length p0:Int)∧s.t 13=vI v13)∧dW p0 p1 m v13=some r
 have e1:=@dW.eq_2
 unfold iP at h
 exact sgo 26 [.tmp 4] Tryz.func283
instance:bP 283 (type_of% @aP8):=⟨@aP8⟩
theorem aSB (p0 p1 r) (h:lE p0 p1=some r):Sc 409 [aL M.aT.en p0,aL M.aT.en p1] [rB r]:=by
 have i1:=inv fun m s=>∃v13:Int,(s.t 0=vL M.aT.en p0∧s.t 1=vL M.aT.en p1∧s.t 12=vI (List.length p0:Int)∧s.t 13=vI v13)∧fE p0 p1 m v13=some r
 have e1:=@fE.eq_2
 unfold lE at h
 exact sgo 26 [.tmp 4] Tryz.func409
instance:bP 409 (type_of% @aSB):=⟨@aSB⟩
end Go.Proofs.YtidhkhdnjonjfaaGreat.gen
