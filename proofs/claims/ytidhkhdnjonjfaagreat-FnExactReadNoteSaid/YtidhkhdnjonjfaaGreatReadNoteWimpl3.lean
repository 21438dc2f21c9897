/-
  Helper text. No conditions.
-/
import Derived.Test.YtidhkhdnjonjfaaGreatReadNoteTi
import Derived.Test.YtidhkhdnjonjfaaGreatReadNoteWimpl0
import Derived.Test.YtidhkhdnjonjfaaGreatReadNoteWimpl1
import Derived.Test.YtidhkhdnjonjfaaGreatReadNoteWimpl2
import Derived.Test.YtidhkhdnjonjfaaGreatReadNoteWlib
set_option linter.unusedVariables false
set_option linter.unusedSimpArgs false
namespace Go.Proofs.YtidhkhdnjonjfaaGreat.gen
open Go Go.Sh
set_option maxRecDepth 20000
set_option maxHeartbeats 4000000
set_option maxRecDepth 100000 in
set_option maxHeartbeats 4000000 in
theorem aP2 (p0:ByteArray) (p1:ByteArray) (r:Int) (h:fU p0 p1=some r):oM Tryz.prog 476 [(false,[.str p0]),(false,[.str p1])] [(false,[.ro (.int .i64 r)])]:=by
 refine aGv Tryz.func476 rfl (by decide +kernel) fun w => ?_
 cases h
 go_enter Tryz.func476,Tryz.ntmps476
 go_wp2
 rw [run_callFunc_extern Tryz.func509 (by kernel_rfl) (by kernel_rfl) (by kernel_rfl) (e:=Extern.BytealgCompare.compare) (by kernel_rfl),Lib.run_compareString]
 simp only [Result.andThen]
 rw [Oper.upon_value]
 go_wp2
 go_ret
 exact ⟨rfl,rfl⟩
instance:bC 476 (type_of% @aP2):=⟨@aP2⟩
theorem aPu (p0 p1 r) (h:sC p0 p1=some r):Sc 412 [aS p0,aS p1] [rI r]:=by
 unfold sC at h
 exact sgo 8 [.tmp 4] Tryz.func412
instance:bC 412 (type_of% @aPu):=⟨@aPu⟩
theorem aO5 (p0 p1 r) (h:cF p0 p1=some r):Sc 298 [aX (M.Key.en p0),aX (M.Key.en p1)] [rI r]:=by
 unfold cF at h
 exact sgo 36 [.tmp 4] Tryz.func298
instance:bC 298 (type_of% @aO5):=⟨@aO5⟩
theorem aNA (p0 r) (h:bE p0=some r):Sc 154 [aX (M.aC.en p0)] [rB r]:=by
 have i1:=inv fun m s=>∃v8:Int,(s.t 1=vP 1 1 0∧s.t 6=vL M.Item.en p0.Items∧s.t 7=vI (List.length p0.Items:Int)∧s.t 8=vI v8∧s.h 1=(1,oX 37 (M.aC.en p0)))∧eE p0 m v8=some r
 have e1:=@eE.eq_2
 unfold bE at h
 exact sgo 55 [.tmp 2] Tryz.func154
instance:bC 154 (type_of% @aNA):=⟨@aNA⟩
theorem aNn (p0 c0 r) (h:kS p0 c0=some r):Sc 300 [aX (M.aC.en p0),(false,[.ptr [.str c0]])] [rB r]:=by
 unfold kS at h
 exact sgo 8 [.tmp 3] Tryz.func300
instance:bC 300 (type_of% @aNn):=⟨@aNn⟩
theorem aNw (p0:List M.aC) (p1:M.aC→Option Bool) (f1_:FuncId) (k1_:List D) (hp1 : ∀z0 r,p1 z0=some r→oM Tryz.prog f1_ ((true,M.aC.en z0) ::  k1_.map fun c=>(false,[c])) [(false,[.ro (.bool r)])]) (r:Int) (h:fB p0 p1=some r):Sc 299 [(false,[.sl (List.map M.aC.en p0)]),(false,[.fn f1_ k1_])] [rI r]:=by
 unfold fB at h
 simp only [EN]
 refine sgn 19 [.tmp 4] Tryz.func299 fun base wd => ?_
 refine sq (rn ?_)
 refine an (sq (sq (rn ?_)))
 refine an (bk ?_)
 refine aAC (fun m s=>∃v8:Int,s.t 0=vL M.aC.en p0∧s.t 1 = .v false [.dat (.fn f1_ k1_)]∧s.t 7=vI (List.length p0:Int)∧s.t 8=vI v8∧bP p0 p1 m v8=some r) fuel ?_ ?_
 ·refine ⟨0,?_,?_,?_,?_,h⟩
  all_goals simp +decide only [F,reduceIte,Nat.reduceAdd,qB,qC,EN, *,-h]
 rintro mL1 s1 ⟨v8,f2,f3,f4,f5,h⟩
 rcases mL1 with _ | mL1
 ·exact absurd h (by simp [bP])
 simp only [bP] at h
 refine sq (rn ?_)
 refine an (sq ?_)
 rcases aGH (decide (v8<(List.length p0:Int))) with b6 | b6
 ·replace h:=jV b6 h
  refine cf (xt (yD (yC (aA4 (an (sq (rn ?_)))))))
  refine an (rt ?_)
  cases h
  simp [Ret,TB,EN, *]
 replace h:=jW b6 h
 refine ct (sk (an (sq (bk (sq (rn ?_))))))
 refine an (sq ?_)
 obtain ⟨x7,h8,h⟩:=bind_some h
 obtain ⟨q9,q10,q11⟩:=mZ h8
 obtain ⟨x12,h13,h⟩:=bind_some h
 refine rn1 (hp1 x7 x12 h13) ?_
 refine an ?_
 rcases wW x12 with b14 | b14
 ·replace h:=jW b14 h
  refine ct (sq (rn ?_))
  refine an (rt ?_)
  cases h
  simp [Ret,TB,EN, *]
 replace h:=jV b14 h
 refine cf (sk (ab (an (rn ?_))))
 refine xS ⟨mL1,by omega,(IntKind.i64.wrap (v8+1)),?_,?_,?_,?_,h⟩
 all_goals simp +decide only [F,reduceIte,Nat.reduceAdd,qB,qC,EN, *,-h]
instance:bC 299 (type_of% @aNw):=⟨@aNw⟩
theorem aMp (p0 p1 r) (h:fS p0 p1=some r):Sc 155 [aX (M.Database.en p0),aS p1] [rI r]:=by
 unfold fS at h
 simp only [EN]
 refine sgn 9 [.tmp 4] Tryz.func155 fun base wd => ?_
 refine sq (rn ?_)
 refine an (sq ?_)
 obtain ⟨x1,h2,h⟩:=bind_some h
 refine rn1 (aNw p0.Stores (fun z0=>kS z0 p1) 300 [.ptr [.str p1]] (fun z0 r hr=>aNn z0 p1 r hr) x1 h2) ?_
 refine an (rt ?_)
 cases h
 simp [Ret,TB,EN, *]
instance:bC 155 (type_of% @aMp):=⟨@aMp⟩
theorem aQW (p0 p1 r) (h:fH p0 p1=some r):Sc 301 [aL M.aE.en p0,aX (M.aE.en p1)] [rI r]:=by
 have i1:=inv fun m s=>∃v8:Int,(s.t 0=vL M.aE.en p0∧s.t 3=vP 3 1 0∧s.t 7=vI (List.length p0:Int)∧s.t 8=vI v8∧s.h 3=(1,oX 239 (M.aE.en p1)))∧cC p0 p1 m v8=some r
 have e1:=@cC.eq_2
 unfold fH at h
 exact sgo 19 [.tmp 4] Tryz.func301
instance:bC 301 (type_of% @aQW):=⟨@aQW⟩
theorem aQ3 (p0 p1 r) (h:eF p0 p1=some r):Sc 156 [aL M.aE.en p0,aX (M.aE.en p1)] [rB r]:=by
 unfold eF at h
 exact sgo 9 [.tmp 4] Tryz.func156
instance:bC 156 (type_of% @aQ3):=⟨@aQ3⟩
theorem aNf (p0 c0 r) (h:jX p0 c0=some r):Sc 344 [aX (M.Field.en p0),(false,[.ptr [.str c0]])] [rB r]:=by
 unfold jX at h
 exact sgo 8 [.tmp 3] Tryz.func344
instance:bC 344 (type_of% @aNf):=⟨@aNf⟩
theorem aMn (p0:List M.Field) (p1:M.Field→Option Bool) (f1_:FuncId) (k1_:List D) (hp1 : ∀z0 r,p1 z0=some r→oM Tryz.prog f1_ ((true,M.Field.en z0) ::  k1_.map fun c=>(false,[c])) [(false,[.ro (.bool r)])]) (r:Int) (h:fD p0 p1=some r):Sc 343 [(false,[.sl (List.map M.Field.en p0)]),(false,[.fn f1_ k1_])] [rI r]:=by
 unfold fD at h
 simp only [EN]
 refine sgn 19 [.tmp 4] Tryz.func343 fun base wd => ?_
 refine sq (rn ?_)
 refine an (sq (sq (rn ?_)))
 refine an (bk ?_)
 refine aAC (fun m s=>∃v8:Int,s.t 0=vL M.Field.en p0∧s.t 1 = .v false [.dat (.fn f1_ k1_)]∧s.t 7=vI (List.length p0:Int)∧s.t 8=vI v8∧bO p0 p1 m v8=some r) fuel ?_ ?_
 ·refine ⟨0,?_,?_,?_,?_,h⟩
  all_goals simp +decide only [F,reduceIte,Nat.reduceAdd,qB,qC,EN, *,-h]
 rintro mL1 s1 ⟨v8,f2,f3,f4,f5,h⟩
 rcases mL1 with _ | mL1
 ·exact absurd h (by simp [bO])
 simp only [bO] at h
 refine sq (rn ?_)
 refine an (sq ?_)
 rcases aGH (decide (v8<(List.length p0:Int))) with b6 | b6
 ·replace h:=jV b6 h
  refine cf (xt (yD (yC (aA4 (an (sq (rn ?_)))))))
  refine an (rt ?_)
  cases h
  simp [Ret,TB,EN, *]
 replace h:=jW b6 h
 refine ct (sk (an (sq (bk (sq (rn ?_))))))
 refine an (sq ?_)
 obtain ⟨x7,h8,h⟩:=bind_some h
 obtain ⟨q9,q10,q11⟩:=mZ h8
 obtain ⟨x12,h13,h⟩:=bind_some h
 refine rn1 (hp1 x7 x12 h13) ?_
 refine an ?_
 rcases wW x12 with b14 | b14
 ·replace h:=jW b14 h
  refine ct (sq (rn ?_))
  refine an (rt ?_)
  cases h
  simp [Ret,TB,EN, *]
 replace h:=jV b14 h
 refine cf (sk (ab (an (rn ?_))))
 refine xS ⟨mL1,by omega,(IntKind.i64.wrap (v8+1)),?_,?_,?_,?_,h⟩
 all_goals simp +decide only [F,reduceIte,Nat.reduceAdd,qB,qC,EN, *,-h]
instance:bC 343 (type_of% @aMn):=⟨@aMn⟩
theorem aOz (p0 p1 r) (h:oT p0 p1=some r):Sc 193 [aX (M.aA.en p0),aS p1] [rI r]:=by
 unfold oT at h
 simp only [EN]
 refine sgn 9 [.tmp 4] Tryz.func193 fun base wd => ?_
 refine sq (rn ?_)
 refine an (sq ?_)
 obtain ⟨x1,h2,h⟩:=bind_some h
 refine rn1 (aMn p0.Fields (fun z0=>jX z0 p1) 344 [.ptr [.str p1]] (fun z0 r hr=>aNf z0 p1 r hr) x1 h2) ?_
 refine an (rt ?_)
 cases h
 simp [Ret,TB,EN, *]
instance:bC 193 (type_of% @aOz):=⟨@aOz⟩
theorem c85 (p0 p1 r) (h:dH p0 p1=some r):Sc 85 [aX (M.aA.en p0),aS p1] [rI r.1,rB r.2]:=by
 unfold dH at h
 exact sgo 18 [.tmp 4,.tmp 5] Tryz.func85
instance:bC 85 (type_of% @c85):=⟨@c85⟩
theorem aQs (p0 p1 p2 r) (h:lA p0 p1 p2=some r):Sc 413 [aX (M.Item.en p0),aX (M.Item.en p1),aS p2] [rB r]:=by
 unfold lA at h
 exact sgo 41 [.tmp 6] Tryz.func413
instance:bC 413 (type_of% @aQs):=⟨@aQs⟩
theorem aOd (p0 p1 r) (h:tO p0 p1=some r):Sc 302 [aX (M.aC.en p0),aS p1] [rW 227 4 M.Item.en r]:=by
 have i1:=inv fun m s=>∃v15:Int,∃r11:List M.Item,∃u11:Nat,(s.t 1=vS p1∧s.t 5=vR 100011 u11∧s.t 13=vL M.Item.en p0.Items∧s.t 14=vI (List.length p0.Items:Int)∧s.t 15=vI v15∧s.h 100011=(u11,oW 227 4 M.Item.en r11))∧eY p0 p1 m v15 r11=some r
 have e1:=@eY.eq_2
 have i2:=fun (v15:Int) (r11:List M.Item) (x15:M.Item) (k24:Int→Option (List M.Item)) (s7:St) (u11:Nat)=>inv fun m s=>∃v10_L2:Int,(s.t 1=vS p1∧s.t 5=vR 100011 u11∧s.t 7=vP 7 ((s7.h 7).1+1) 0∧s.t 10=vI v10_L2∧s.t 13=vL M.Item.en p0.Items∧s.t 14=vI (List.length p0.Items:Int)∧s.t 15=vI v15∧s.h 7=(((s7.h 7).1+1),oX 227 (M.Item.en x15))∧s.h 100011=(u11,oW 227 4 M.Item.en r11))∧gN p1 r11 x15 k24 m v10_L2=some r
 have e2:=@gN.eq_2
 unfold tO at h
 exact sgo 52 [.tmp 4] Tryz.func302
instance:bC 302 (type_of% @aOd):=⟨@aOd⟩
theorem aP9 (p0 p1 r) (h:eI p0 p1=some r):Sc 157 [aX (M.aC.en p0),aS p1] [(true,M.Key.rs r.1),(true,M.Key.rs r.2.1),rB r.2.2]:=by
 have i1:=fun (x1:(List M.Item))=>inv fun m s=>∃v8:Int,(s.t 1=vS p1∧s.t 4=vP 4 1 0∧s.t 5=vP 5 1 0∧s.t 7=vR 100015 1∧s.t 8=vI v8∧s.h 4=(1,oB 225 [cI 0,cI 0,cS (⟨#[]⟩:ByteArray)])∧s.h 5=(1,oB 225 [cI 0,cI 0,cS (⟨#[]⟩:ByteArray)])∧s.h 100015=(1,oW 227 4 M.Item.en x1))∧dB p1 x1 m v8=some r
 have e1:=@dB.eq_2
 unfold eI at h
 exact sgo 59 [.cell 4 225,.cell 5 225,.tmp 6] Tryz.func157
instance:bC 157 (type_of% @aP9):=⟨@aP9⟩
theorem c52 (p0 r) (h:gA p0=some r):Sc 52 [aX (M.Database.en p0)] [rB r]:=by
 have i1:=inv fun m s=>∃v36:Int,(s.t 1=vP 1 1 0∧s.t 34=vL M.aC.en p0.Stores∧s.t 35=vI (List.length p0.Stores:Int)∧s.t 36=vI v36∧s.h 1=(1,oX 32 (M.Database.en p0)))∧cR p0 m v36=some r
 have e1:=@cR.eq_2
 have i2:=inv fun m s=>∃v64:Int,(s.t 1=vP 1 1 0∧s.t 62=vL M.aE.en p0.Unique∧s.t 63=vI (List.length p0.Unique:Int)∧s.t 64=vI v64∧s.h 1=(1,oX 32 (M.Database.en p0)))∧cV p0 m v64=some r
 have e2:=@cV.eq_2
 unfold gA at h
 exact sgo 103 [.tmp 2] Tryz.func52
instance:bC 52 (type_of% @c52):=⟨@c52⟩
theorem aMk (p0 c0 r) (h:mR p0 c0=some r):Sc 342 [aX (M.Item.en p0),(false,[.ptr [.int .i64 c0.Kind,.int .i64 c0.N,.str c0.Text]])] [rB r]:=by
 unfold mR at h
 exact sgo 8 [.tmp 3] Tryz.func342
instance:bC 342 (type_of% @aMk):=⟨@aMk⟩
end Go.Proofs.YtidhkhdnjonjfaaGreat.gen
