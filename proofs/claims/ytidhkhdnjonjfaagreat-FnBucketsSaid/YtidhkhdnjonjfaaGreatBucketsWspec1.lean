/-
  Helper text. No conditions.
-/
import Derived.Test.YtidhkhdnjonjfaaGreatBucketsTi
set_option linter.unusedVariables false
set_option linter.unusedSimpArgs false
namespace Go.Proofs.YtidhkhdnjonjfaaGreat.gen
open Go Go.Sh
set_option maxRecDepth 20000
set_option maxHeartbeats 4000000
theorem aTJ (p0 r) (h:lO p0=some r):Sc 267 [(false,[.ptr [.sl (List.map enB p0.b),.int .i64 p0.i,.int .i64 p0.h]])] [(false,[.edit (.lend 199 [.int .i64 r.1,.int .i64 r.2.1])]),rI r.2.2]:=by
 unfold lO at h
 simp only [EN]
 refine sgB 58 [.tmp 2] Tryz.func267 fun base wd B0 u0 hw0 => ?_
 refine gB (J:=fun s=>s.t 0=vP 7059000 1 0∧s.h 7059000=(1,oB 199 [.old B0 (.sl (List.map enB p0.b)) (some u0),cI p0.i,cI p0.h])∧True) ?_ ?_
 ·refine ⟨?_,?_,trivial⟩<;>(try simp only [LN,List.map_cons,List.map_nil])<;>rfl
 rintro s1 ⟨f2,f3,_⟩
 exact sgX
instance:bP 267 (type_of% @aTJ):=⟨@aTJ⟩
theorem aGI (p0 p1 r) (h:aJ p0 p1=some r):Sc 125 [(false,[.ptr [.sl (List.map enB p0.b),.int .i64 p0.i,.int .i64 p0.h]]),aI p1] [(false,[.edit (.lend 199 [.int .i64 r.1,.int .i64 r.2.1])]),rI r.2.2]:=by
 unfold aJ at h
 simp only [EN]
 refine sgB 31 [.tmp 4] Tryz.func125 fun base wd B0 u0 hw0 => ?_
 refine gB (J:=fun s=>s.t 0=vP 7059000 1 0∧s.t 1=vI p1∧s.h 7059000=(1,oB 199 [.old B0 (.sl (List.map enB p0.b)) (some u0),cI p0.i,cI p0.h])∧True) ?_ ?_
 ·refine ⟨?_,?_,?_,trivial⟩<;>(try simp only [LN,List.map_cons,List.map_nil])<;>rfl
 rintro s1 ⟨f2,f3,f4,_⟩
 exact sgX
instance:bP 125 (type_of% @aGI):=⟨@aGI⟩
theorem aPk (p0 p1 r) (h:fT p0 p1=some r):Sc 126 [(false,[.ptr [.sl (List.map enB p0.b),.int .i64 p0.i,.int .i64 p0.h]]),aL enS p1] [(false,[.edit (.lend 199 [.int .i64 r.1,.int .i64 r.2.1])]),rS r.2.2]:=by
 unfold fT at h
 simp only [EN]
 refine sgB 12 [.tmp 4] Tryz.func126 fun base wd B0 u0 hw0 => ?_
 refine gB (J:=fun s=>s.t 0=vP 7059000 1 0∧s.t 1=vL enS p1∧s.h 7059000=(1,oB 199 [.old B0 (.sl (List.map enB p0.b)) (some u0),cI p0.i,cI p0.h])∧True) ?_ ?_
 ·refine ⟨?_,?_,?_,trivial⟩<;>(try simp only [LN,List.map_cons,List.map_nil])<;>rfl
 rintro s1 ⟨f2,f3,f4,_⟩
 exact sgX
instance:bP 126 (type_of% @aPk):=⟨@aPk⟩
theorem c46 (p0 p1 r) (h:bS p0 p1=some r):Sc 46 [(false,[.ptr [.sl (List.map enB p0.b),.int .i64 p0.i,.int .i64 p0.h]]),aI p1] [(false,[.edit (.lend 199 [.int .i64 r.1,.int .i64 r.2.1])]),rB r.2.2]:=by
 unfold bS at h
 simp only [EN]
 refine sgB 9 [.tmp 4] Tryz.func46 fun base wd B0 u0 hw0 => ?_
 refine gB (J:=fun s=>s.t 0=vP 7059000 1 0∧s.t 1=vI p1∧s.h 7059000=(1,oB 199 [.old B0 (.sl (List.map enB p0.b)) (some u0),cI p0.i,cI p0.h])∧True) ?_ ?_
 ·refine ⟨?_,?_,?_,trivial⟩<;>(try simp only [LN,List.map_cons,List.map_nil])<;>rfl
 rintro s1 ⟨f2,f3,f4,_⟩
 exact sgX
instance:bP 46 (type_of% @c46):=⟨@c46⟩
theorem c72 (p0 p1 r) (h:gA p0 p1=some r):Sc 72 [aX (M.aC.en p0),aS p1] [rI r.1,rB r.2]:=by
 have i1:=inv fun m s=>∃v6:Int,(s.t 1=vS p1∧s.t 2=vP 2 1 0∧s.t 6=vI v6∧s.h 2=(1,oX 148 (M.aC.en p0)))∧kM p0 p1 m v6=some r
 have e1:=@kM.eq_2
 unfold gA at h
 exact sgo 28 [.tmp 4,.tmp 5] Tryz.func72
instance:bP 72 (type_of% @c72):=⟨@c72⟩
theorem aPs (p0 r) (h:dB p0=some r):Sc 263 [(false,[.ptr [.sl (List.map enB p0.b),.int .i64 p0.i,.int .i64 p0.h]])] [(false,[.edit (.lend 199 [.int .i64 r.1,.int .i64 r.2.1])]),(true,M.Key.rs r.2.2)]:=by
 unfold dB at h
 simp only [EN]
 refine sgB 6 [.cell 2 225] Tryz.func263 fun base wd B0 u0 hw0 => ?_
 refine gB (J:=fun s=>s.t 0=vP 7059000 1 0∧s.h 7059000=(1,oB 199 [.old B0 (.sl (List.map enB p0.b)) (some u0),cI p0.i,cI p0.h])∧True) ?_ ?_
 ·refine ⟨?_,?_,trivial⟩<;>(try simp only [LN,List.map_cons,List.map_nil])<;>rfl
 rintro s1 ⟨f2,f3,_⟩
 exact sgX
instance:bP 263 (type_of% @aPs):=⟨@aPs⟩
theorem aR0 (p0 p1 r) (h:dS p0 p1=some r):Sc 426 [aL enB p0,aI p1] [rI r.1,rI r.2.1,rB r.2.2]:=by
 have i1:=inv fun m s=>∃v7:Int,∃v8:Int,(s.t 0=vL enB p0∧s.t 1=vI p1∧s.t 7=vI v7∧s.t 8=vI v8)∧cW p0 p1 m v7 v8=some r
 have e1:=@cW.eq_2
 unfold dS at h
 exact sgo 55 [.tmp 4,.tmp 5,.tmp 6] Tryz.func426
instance:bP 426 (type_of% @aR0):=⟨@aR0⟩
theorem aTQ (p0 p1 p2 r) (h:cV p0 p1 p2=some r):Sc 425 [aL enB p0,aI p1,aI p2] [rW 5 1 enB r.1,rI r.2.1,rB r.2.2]:=by
 unfold cV at h
 exact sgo 46 [.tmp 6,.tmp 7,.tmp 8] Tryz.func425
instance:bP 425 (type_of% @aTQ):=⟨@aTQ⟩
theorem aTF (p0 r) (h:nO p0=some r):Sc 402 [aL enB p0] [rW 3 1 enI r]:=by
 have i1:=inv fun m s=>∃v4:Int,∃r7:List Int,∃u7:Nat,(s.t 0=vL enB p0∧s.t 3=vR 100007 u7∧s.t 4=vI v4∧s.h 100007=(u7,oW 3 1 enI r7))∧eT p0 m v4 r7=some r
 have e1:=@eT.eq_2
 unfold nO at h
 exact sgo 23 [.tmp 2] Tryz.func402
instance:bP 402 (type_of% @aTF):=⟨@aTF⟩
theorem aRL (p0 p1 r) (h:oO p0 p1=some r):Sc 428 [aL enB p0,aL enB p1] [rB r]:=by
 unfold oO at h
 exact sgo 10 [.tmp 4] Tryz.func428
instance:bP 428 (type_of% @aRL):=⟨@aRL⟩
theorem aR4 (p0 p1 r) (h:pZ p0 p1=some r):Sc 293 [(false,[.ptr [.sl (List.map enB p0.b),.int .i64 p0.i,.int .i64 p0.h]]),aI p1] [(false,[.edit (.lend 199 [.int .i64 r.1,.int .i64 r.2.1])]),rW 5 1 enB r.2.2]:=by
 unfold pZ at h
 simp only [EN]
 refine sgB 20 [.tmp 4] Tryz.func293 fun base wd B0 u0 hw0 => ?_
 refine gB (J:=fun s=>s.t 0=vP 7059000 1 0∧s.t 1=vI p1∧s.h 7059000=(1,oB 199 [.old B0 (.sl (List.map enB p0.b)) (some u0),cI p0.i,cI p0.h])∧True) ?_ ?_
 ·refine ⟨?_,?_,?_,trivial⟩<;>(try simp only [LN,List.map_cons,List.map_nil])<;>rfl
 rintro s1 ⟨f2,f3,f4,_⟩
 have i1:=inv fun m s=>∃v6:Int,∃r7:List Int,∃w7059000_1:Int,∃w7059000_2:Int,∃u7:Nat,(s.t 0=vP 7059000 1 0∧s.t 1=vI p1∧s.t 5=vR 100007 u7∧s.t 6=vI v6∧s.h 100007=(u7,oW 5 1 enB r7)∧s.h 7059000=(1,oB 199 [.old B0 (.sl (List.map enB p0.b)) (some u0),cI w7059000_1,cI w7059000_2]))∧jX p0 p1 m v6 r7 w7059000_1 w7059000_2=some r
 have e1:=@jX.eq_2
 exact sgX
instance:bP 293 (type_of% @aR4):=⟨@aR4⟩
theorem aOz (p0 p1 r) (h:cG p0 p1=some r):Sc 128 [(false,[.ptr [.sl (List.map enB p0.b),.int .i64 p0.i,.int .i64 p0.h]]),aL enI p1] [(false,[.edit (.lend 199 [.int .i64 r.1,.int .i64 r.2.1])]),rI r.2.2]:=by
 unfold cG at h
 simp only [EN]
 refine sgB 12 [.tmp 4] Tryz.func128 fun base wd B0 u0 hw0 => ?_
 refine gB (J:=fun s=>s.t 0=vP 7059000 1 0∧s.t 1=vL enI p1∧s.h 7059000=(1,oB 199 [.old B0 (.sl (List.map enB p0.b)) (some u0),cI p0.i,cI p0.h])∧True) ?_ ?_
 ·refine ⟨?_,?_,?_,trivial⟩<;>(try simp only [LN,List.map_cons,List.map_nil])<;>rfl
 rintro s1 ⟨f2,f3,f4,_⟩
 exact sgX
instance:bP 128 (type_of% @aOz):=⟨@aOz⟩
theorem aQi (p0 p1 r) (h:pT p0 p1=some r):Sc 218 [aX (M.aE.en p0),aI p1] [rI r]:=by
 have i1:=inv fun m s=>∃v5:Int,(s.t 1=vI p1∧s.t 2=vP 2 1 0∧s.t 5=vI v5∧s.h 2=(1,oX 28 (M.aE.en p0)))∧gM p0 p1 m v5=some r
 have e1:=@gM.eq_2
 unfold pT at h
 exact sgo 22 [.tmp 4] Tryz.func218
instance:bP 218 (type_of% @aQi):=⟨@aQi⟩
theorem aQX (p0 p1 r) (h:vJ p0 p1=some r):Sc 471 [aX (M.Database.en p0),aX (M.gK.en p1)] [rI r]:=by
 have i1:=inv fun m s=>∃v5:Int,(s.t 2=vP 2 1 0∧s.t 3=vP 3 1 0∧s.t 5=vI v5∧s.h 2=(1,oX 32 (M.Database.en p0))∧s.h 3=(1,oX 469 (M.gK.en p1)))∧jN p0 p1 m v5=some r
 have e1:=@jN.eq_2
 unfold vJ at h
 exact sgo 34 [.tmp 4] Tryz.func471
instance:bP 471 (type_of% @aQX):=⟨@aQX⟩
theorem aSu (p0 p1 p2 r) (h:sW p0 p1 p2=some r):Sc 468 [aL M.aP.en p0,aI p1,aI p2] [rW 431 2 M.aP.en r]:=by
 have i1:=inv fun m s=>∃v8:Int,(s.t 0=vL M.aP.en p0∧s.t 1=vI p1∧s.t 2=vI p2∧s.t 7=vR 100009 2∧s.t 8=vI v8∧s.h 100009=(2,oW 431 2 M.aP.en p0))∧lZ p0 p1 p2 m v8=some r
 have e1:=@lZ.eq_2
 unfold sW at h
 exact sgo 60 [.tmp 6] Tryz.func468
instance:bP 468 (type_of% @aSu):=⟨@aSu⟩
theorem aSz (p0 r) (h:eZ p0=some r):Sc 467 [aI p0] [rI r]:=by
 have i1:=inv fun m s=>∃v3:Int,∃v4:Int,(s.t 0=vI p0∧s.t 3=vI v3∧s.t 4=vI v4)∧jT p0 m v3 v4=some r
 have e1:=@jT.eq_2
 unfold eZ at h
 exact sgo 17 [.tmp 2] Tryz.func467
instance:bP 467 (type_of% @aSz):=⟨@aSz⟩
end Go.Proofs.YtidhkhdnjonjfaaGreat.gen
