/-
  Helper text. No conditions.
-/
import Derived.Test.YtipmihbgjolaaaaGreatWorldsTi
set_option linter.unusedVariables false
set_option linter.unusedSimpArgs false
namespace Go.Proofs.YtipmihbgjolaaaaGreat.gen
open Go Go.Sh
set_option maxRecDepth 20000
set_option maxHeartbeats 4000000
theorem Yo (p0 r) (h:oH p0=some r):Sc 145 [(false,[.ptr [.sl (List.map enB p0.b),.int .i64 p0.i,.int .i64 p0.h]])] [(false,[.edit (.lend 182 [.int .i64 r.1,.int .i64 r.2.1])]),rI r.2.2]:=by
 unfold oH at h
 simp only [EN]
 refine sgB 58 [.tmp 2] Tryz.func145 λbase wd B0 u0 hw0 => ?_
 refine eJ (J:=λs=>s.t 0=vP 7059000 1 0/\s.h 7059000=(1,oB 182 [.old B0 (.sl (List.map enB p0.b)) (some u0),cI p0.i,cI p0.h])/\True) ?_ ?_
 ·and_intros<;>(try simp only [LN,List.map_cons,List.map_nil])<;>rfl
 rintro s1 f2
 exact sgX
instance:cA 145 (type_of% @Yo):=⟨@Yo⟩
theorem c65 (p0 p1 r) (h:aE p0 p1=some r):Sc 65 [(false,[.ptr [.sl (List.map enB p0.b),.int .i64 p0.i,.int .i64 p0.h]]),aI p1] [(false,[.edit (.lend 182 [.int .i64 r.1,.int .i64 r.2.1])]),rI r.2.2]:=by
 unfold aE at h
 simp only [EN]
 refine sgB 31 [.tmp 4] Tryz.func65 λbase wd B0 u0 hw0 => ?_
 refine eJ (J:=λs=>s.t 0=vP 7059000 1 0/\s.t 1=vI p1/\s.h 7059000=(1,oB 182 [.old B0 (.sl (List.map enB p0.b)) (some u0),cI p0.i,cI p0.h])/\True) ?_ ?_
 ·and_intros<;>(try simp only [LN,List.map_cons,List.map_nil])<;>rfl
 rintro s1 f2
 exact sgX
instance:cA 65 (type_of% @c65):=⟨@c65⟩
theorem c69 (p0 p1 r) (h:bE p0 p1=some r):Sc 69 [(false,[.ptr [.sl (List.map enB p0.b),.int .i64 p0.i,.int .i64 p0.h]]),aL enI p1] [(false,[.edit (.lend 182 [.int .i64 r.1,.int .i64 r.2.1])]),rI r.2.2]:=by
 unfold bE at h
 simp only [EN]
 refine sgB 12 [.tmp 4] Tryz.func69 λbase wd B0 u0 hw0 => ?_
 refine eJ (J:=λs=>s.t 0=vP 7059000 1 0/\s.t 1=vL enI p1/\s.h 7059000=(1,oB 182 [.old B0 (.sl (List.map enB p0.b)) (some u0),cI p0.i,cI p0.h])/\True) ?_ ?_
 ·and_intros<;>(try simp only [LN,List.map_cons,List.map_nil])<;>rfl
 rintro s1 f2
 exact sgX
instance:cA 69 (type_of% @c69):=⟨@c69⟩
theorem c82 (p0 p1 r) (h:eT p0 p1=some r):Sc 82 [(false,[.ptr [.sl (List.map enB p0.b),.int .i64 p0.i,.int .i64 p0.h]]),aL enS p1] [(false,[.edit (.lend 182 [.int .i64 r.1,.int .i64 r.2.1])]),rS r.2.2]:=by
 unfold eT at h
 simp only [EN]
 refine sgB 12 [.tmp 4] Tryz.func82 λbase wd B0 u0 hw0 => ?_
 refine eJ (J:=λs=>s.t 0=vP 7059000 1 0/\s.t 1=vL enS p1/\s.h 7059000=(1,oB 182 [.old B0 (.sl (List.map enB p0.b)) (some u0),cI p0.i,cI p0.h])/\True) ?_ ?_
 ·and_intros<;>(try simp only [LN,List.map_cons,List.map_nil])<;>rfl
 rintro s1 f2
 exact sgX
instance:cA 82 (type_of% @c82):=⟨@c82⟩
theorem c75 (p0 p1 r) (h:cK p0 p1=some r):Sc 75 [(false,[.ptr [.sl (List.map enB p0.b),.int .i64 p0.i,.int .i64 p0.h]]),aI p1] [(false,[.edit (.lend 182 [.int .i64 r.1,.int .i64 r.2.1])]),rB r.2.2]:=by
 unfold cK at h
 simp only [EN]
 refine sgB 9 [.tmp 4] Tryz.func75 λbase wd B0 u0 hw0 => ?_
 refine eJ (J:=λs=>s.t 0=vP 7059000 1 0/\s.t 1=vI p1/\s.h 7059000=(1,oB 182 [.old B0 (.sl (List.map enB p0.b)) (some u0),cI p0.i,cI p0.h])/\True) ?_ ?_
 ·and_intros<;>(try simp only [LN,List.map_cons,List.map_nil])<;>rfl
 rintro s1 f2
 exact sgX
instance:cA 75 (type_of% @c75):=⟨@c75⟩
theorem V4 (p0 p1 r) (h:nK p0 p1=some r):Sc 313 [aX (M.aAA.en p0),aS p1] [rI r]:=by
 have i1:=inv λm s=>∃v5:Int,(s.t 1=vS p1/\s.t 2=vP 2 1 0/\s.t 5=vI v5/\s.h 2=(1,oX 35 (M.aAA.en p0)))/\jF p0 p1 m v5=some r
 have e1:=@jF.eq_2
 unfold nK at h
 exact sgo 22 [.tmp 4] Tryz.func313
instance:cA 313 (type_of% @V4):=⟨@V4⟩
theorem X7 (p0 p1 r) (h:tA p0 p1=some r):Sc 369 [aX (M.aAM.en p0),aB p1] [rI r]:=by unfold tA at h;exact sgo 10 [.tmp 4] Tryz.func369
instance:cA 369 (type_of% @X7):=⟨@X7⟩
theorem Yu (p0 r) (h:sS p0=some r):Sc 315 [aX (M.aF.en p0)] [rI r]:=by
 have i1:=inv λm s=>∃v3:Int,∃v4:Int,(s.t 1=vP 1 1 0/\s.t 3=vI v3/\s.t 4=vI v4/\s.h 1=(1,oX 31 (M.aF.en p0)))/\dU p0 m v3 v4=some r
 have e1:=@dU.eq_2
 have i2:=λ(v4:Int) (k8:Int->Int->Option Int)=>inv λm s=>∃aa:Int,∃ae:Int,(s.t 1=vP 1 1 0/\s.t 3=vI aa/\s.t 4=vI v4/\s.t 5=vI ae/\s.h 1=(1,oX 31 (M.aF.en p0)))/\hP p0 v4 k8 m aa ae=some r
 have e2:=@hP.eq_2
 unfold sS at h
 exact sgo 43 [.tmp 2] Tryz.func315
instance:cA 315 (type_of% @Yu):=⟨@Yu⟩
theorem Vb (p0 r) (h:dF p0=some r):Sc 208 [(false,[.ptr [.sl (List.map enB p0.b),.int .i64 p0.i,.int .i64 p0.h]])] [(false,[.edit (.lend 182 [.int .i64 r.1,.int .i64 r.2.1])]),(true,M.Key.rs r.2.2)]:=by
 unfold dF at h
 simp only [EN]
 refine sgB 6 [.cell 2 209] Tryz.func208 λbase wd B0 u0 hw0 => ?_
 refine eJ (J:=λs=>s.t 0=vP 7059000 1 0/\s.h 7059000=(1,oB 182 [.old B0 (.sl (List.map enB p0.b)) (some u0),cI p0.i,cI p0.h])/\True) ?_ ?_
 ·and_intros<;>(try simp only [LN,List.map_cons,List.map_nil])<;>rfl
 rintro s1 f2
 exact sgX
instance:cA 208 (type_of% @Vb):=⟨@Vb⟩
theorem Yq (p0 r) (h:rZ p0=some r):Sc 202 [aL enB p0] [rW 3 1 enI r]:=by
 have i1:=inv λm s=>∃v4:Int,∃r7:List Int,∃u7:Nat,(s.t 0=vL enB p0/\s.t 3=vR 100007 u7/\s.t 4=vI v4/\s.h 100007=(u7,oW 3 1 enI r7))/\gD p0 m v4 r7=some r
 have e1:=@gD.eq_2
 unfold rZ at h
 exact sgo 23 [.tmp 2] Tryz.func202
instance:cA 202 (type_of% @Yq):=⟨@Yq⟩
theorem XC (p0 p1 r) (h:tC p0 p1=some r):Sc 113 [aL enB p0,aL enB p1] [rB r]:=by unfold tC at h;exact sgo 10 [.tmp 4] Tryz.func113
instance:cA 113 (type_of% @XC):=⟨@XC⟩
theorem YM (p0 p1 r) (h:kK p0 p1=some r):Sc 348 [aX (M.aA.en p0),aX (M.Key.en p1)] [rI r]:=by
 have i1:=inv λm s=>∃v5:Int,(s.t 2=vP 2 1 0/\s.t 3=vP 3 1 0/\s.t 5=vI v5/\s.h 2=(1,oX 40 (M.aA.en p0))/\s.h 3=(1,oX 209 (M.Key.en p1)))/\kR p0 p1 m v5=some r
 have e1:=@kR.eq_2
 unfold kK at h
 exact sgo 22 [.tmp 4] Tryz.func348
instance:cA 348 (type_of% @YM):=⟨@YM⟩
theorem Za (p0 p1 r) (h:uT p0 p1=some r):Sc 285 [(false,[.ptr [.sl (List.map enB p0.b),.int .i64 p0.i,.int .i64 p0.h]]),aI p1] [(false,[.edit (.lend 182 [.int .i64 r.1,.int .i64 r.2.1])]),rW 5 1 enB r.2.2]:=by
 unfold uT at h
 simp only [EN]
 refine sgB 20 [.tmp 4] Tryz.func285 λbase wd B0 u0 hw0 => ?_
 refine eJ (J:=λs=>s.t 0=vP 7059000 1 0/\s.t 1=vI p1/\s.h 7059000=(1,oB 182 [.old B0 (.sl (List.map enB p0.b)) (some u0),cI p0.i,cI p0.h])/\True) ?_ ?_
 ·and_intros<;>(try simp only [LN,List.map_cons,List.map_nil])<;>rfl
 rintro s1 f2
 have i1:=inv λm s=>∃v6:Int,∃r7:List Int,∃aa:Int,∃ae:Int,∃u7:Nat,(s.t 0=vP 7059000 1 0/\s.t 1=vI p1/\s.t 5=vR 100007 u7/\s.t 6=vI v6/\s.h 100007=(u7,oW 5 1 enB r7)/\s.h 7059000=(1,oB 182 [.old B0 (.sl (List.map enB p0.b)) (some u0),cI aa,cI ae]))/\mD p0 p1 m v6 r7 aa ae=some r
 have e1:=@mD.eq_2
 exact sgX
instance:cA 285 (type_of% @Za):=⟨@Za⟩
theorem ZN (p0 p1 r) (h:uL p0 p1=some r):Sc 114 [aX (M.aF.en p0),aI p1] [rI r]:=by
 have i1:=inv λm s=>∃v5:Int,(s.t 1=vI p1/\s.t 2=vP 2 1 0/\s.t 5=vI v5/\s.h 2=(1,oX 31 (M.aF.en p0)))/\iY p0 p1 m v5=some r
 have e1:=@iY.eq_2
 unfold uL at h
 exact sgo 22 [.tmp 4] Tryz.func114
theorem XB (p0 p1 r) (h:sE p0 p1=some r):Sc 294 [aX (M.aAI.en p0),aI p1] [rI r]:=by
 have i1:=inv λm s=>∃v5:Int,(s.t 1=vI p1/\s.t 2=vP 2 1 0/\s.t 5=vI v5/\s.h 2=(1,oX 137 (M.aAI.en p0)))/\oQ p0 p1 m v5=some r
 have e1:=@oQ.eq_2
 unfold sE at h
 exact sgo 27 [.tmp 4] Tryz.func294
instance:cA 294 (type_of% @XB):=⟨@XB⟩
theorem Y6 (p0 p1 p2 r) (h:wY p0 p1 p2=some r):Sc 357 [aL M.aK.en p0,aI p1,aI p2] [rW 207 2 M.aK.en r]:=by
 have i1:=inv λm s=>∃v8:Int,(s.t 0=vL M.aK.en p0/\s.t 1=vI p1/\s.t 2=vI p2/\s.t 7=vR 100009 2/\s.t 8=vI v8/\s.h 100009=(2,oW 207 2 M.aK.en p0))/\oS p0 p1 p2 m v8=some r
 have e1:=@oS.eq_2
 unfold wY at h
 exact sgo 60 [.tmp 6] Tryz.func357
instance:cA 357 (type_of% @Y6):=⟨@Y6⟩
theorem WJ (p0 r) (h:wJ p0=some r):Sc 353 [aX (M.aH.en p0)] [(true,M.bA.rs r.1),rB r.2]:=by unfold wJ at h;exact sgo 13 [.cell 2 211,.tmp 3] Tryz.func353
instance:cA 353 (type_of% @WJ):=⟨@WJ⟩
theorem c97 (p0 p1 r) (h:xF p0 p1=some r):Sc 97 [aL M.bV.en p0,aI p1] [rI r]:=by
 have i1:=inv λm s=>∃v5:Int,(s.t 0=vL M.bV.en p0/\s.t 1=vI p1/\s.t 5=vI v5)/\lO p0 p1 m v5=some r
 have e1:=@lO.eq_2
 unfold xF at h
 exact sgo 20 [.tmp 4] Tryz.func97
instance:cA 97 (type_of% @c97):=⟨@c97⟩
theorem c28 (p0 p1 r) (h:uE p0 p1=some r):Sc 28 [aX (M.World.en p0),aI p1] [rI r]:=by unfold uE at h;exact sgo 9 [.tmp 4] Tryz.func28
end Go.Proofs.YtipmihbgjolaaaaGreat.gen
