/-
  Helper text. No conditions.
-/
import Derived.Test.YtidhkhdnjonjfaaGreatBucketsTi
import Derived.Test.YtidhkhdnjonjfaaGreatBucketsWimpl0
import Derived.Test.YtidhkhdnjonjfaaGreatBucketsWimpl1
import Derived.Test.YtidhkhdnjonjfaaGreatBucketsWimpl2
import Derived.Test.YtidhkhdnjonjfaaGreatBucketsWimpl3
import Derived.Test.YtidhkhdnjonjfaaGreatBucketsWimpl4
set_option linter.unusedVariables false
set_option linter.unusedSimpArgs false
namespace Go.Proofs.YtidhkhdnjonjfaaGreat.gen
open Go Go.Sh
set_option maxRecDepth 20000
set_option maxHeartbeats 4000000
theorem aSV (p0 p1 r) (h:fU p0 p1=some r):Sc 157 [aX (M.aA.en p0),aS p1] [(true,M.Key.rs r.1),(true,M.Key.rs r.2.1),rB r.2.2]:=by
 have i1:=fun (x1:(List M.Item))=>inv fun m s=>∃v8:Int,(s.t 1=vS p1∧s.t 4=vP 4 1 0∧s.t 5=vP 5 1 0∧s.t 7=vR 100015 1∧s.t 8=vI v8∧s.h 4=(1,oB 225 [cI 0,cI 0,cS (⟨#[]⟩:ByteArray)])∧s.h 5=(1,oB 225 [cI 0,cI 0,cS (⟨#[]⟩:ByteArray)])∧s.h 100015=(1,oW 227 4 M.Item.en x1))∧dV p1 x1 m v8=some r
 have e1:=@dV.eq_2
 unfold fU at h
 exact sgo 59 [.cell 4 225,.cell 5 225,.tmp 6] Tryz.func157
instance:bP 157 (type_of% @aSV):=⟨@aSV⟩
theorem c52 (p0 r) (h:oC p0=some r):Sc 52 [aX (M.Database.en p0)] [rB r]:=by
 have i1:=inv fun m s=>∃v36:Int,(s.t 1=vP 1 1 0∧s.t 34=vL M.aA.en p0.Stores∧s.t 35=vI (List.length p0.Stores:Int)∧s.t 36=vI v36∧s.h 1=(1,oX 32 (M.Database.en p0)))∧dI p0 m v36=some r
 have e1:=@dI.eq_2
 have i2:=inv fun m s=>∃v64:Int,(s.t 1=vP 1 1 0∧s.t 62=vL M.aH.en p0.Unique∧s.t 63=vI (List.length p0.Unique:Int)∧s.t 64=vI v64∧s.h 1=(1,oX 32 (M.Database.en p0)))∧dM p0 m v64=some r
 have e2:=@dM.eq_2
 unfold oC at h
 exact sgo 103 [.tmp 2] Tryz.func52
instance:bP 52 (type_of% @c52):=⟨@c52⟩
theorem c53 (p0 r) (h:pQ p0=some r):Sc 53 [aX (M.aD.en p0)] [rB r]:=by
 unfold pQ at h
 exact sgo 23 [.tmp 2] Tryz.func53
instance:bP 53 (type_of% @c53):=⟨@c53⟩
theorem c43 (p0 r) (h:mV p0=some r):Sc 43 [aX (M.aA.en p0)] [rI r]:=by
 have i1:=inv fun m s=>∃v3:Int,∃v9:Int,(s.t 3=vI v3∧s.t 7=vL M.Item.en p0.Items∧s.t 8=vI (List.length p0.Items:Int)∧s.t 9=vI v9)∧gJ p0 m v3 v9=some r
 have e1:=@gJ.eq_2
 unfold mV at h
 exact sgo 26 [.tmp 2] Tryz.func43
instance:bP 43 (type_of% @c43):=⟨@c43⟩
theorem aRy (p0 r) (h:mF p0=some r):Sc 142 [aX (M.Database.en p0)] [rI r]:=by
 have i1:=inv fun m s=>∃v3:Int,∃v9:Int,(s.t 3=vI v3∧s.t 7=vL M.aA.en p0.Stores∧s.t 8=vI (List.length p0.Stores:Int)∧s.t 9=vI v9)∧eL p0 m v3 v9=some r
 have e1:=@eL.eq_2
 unfold mF at h
 exact sgo 19 [.tmp 2] Tryz.func142
instance:bP 142 (type_of% @aRy):=⟨@aRy⟩
theorem c42 (p0 r) (h:uF p0=some r):Sc 42 [aX (M.bF.en p0)] [rI r]:=by
 unfold uF at h
 exact sgo 10 [.tmp 2] Tryz.func42
instance:bP 42 (type_of% @c42):=⟨@c42⟩
theorem c11 (p0 r) (h:lQ p0=some r):Sc 11 [aX (M.Bucket.en p0)] [rI r]:=by
 unfold lQ at h
 exact sgo 23 [.tmp 2] Tryz.func11
instance:bP 11 (type_of% @c11):=⟨@c11⟩
theorem c17 (p0 r) (h:fZ p0=some r):Sc 17 [aX (M.Bucket.en p0)] [rB r]:=by
 unfold fZ at h
 exact sgo 50 [.tmp 2] Tryz.func17
instance:bP 17 (type_of% @c17):=⟨@c17⟩
theorem aRB (p0 r) (h:jO p0=some r):Sc 132 [aX (M.Bucket.en p0)] [(true,M.Bucket.rs r)]:=by
 unfold jO at h
 exact sgo 16 [.cell 2 46] Tryz.func132
instance:bP 132 (type_of% @aRB):=⟨@aRB⟩
theorem c34 (p0 p1 r) (h:iV p0 p1=some r):Sc 34 [aX (M.Bucket.en p0),aX (M.Bucket.en p1)] [(true,M.Bucket.rs r.1),rB r.2]:=by
 unfold iV at h
 exact sgo 18 [.cell 4 46,.tmp 5] Tryz.func34
instance:bP 34 (type_of% @c34):=⟨@c34⟩
theorem c8 (p0 p1 r) (h:nC p0 p1=some r):Sc 8 [aX (M.Bucket.en p0),aX (M.bF.en p1)] [(true,M.Bucket.rs r.1),rB r.2]:=by
 unfold nC at h
 exact sgo 15 [.cell 4 46,.tmp 5] Tryz.func8
instance:bP 8 (type_of% @c8):=⟨@c8⟩
theorem c38 (p0 p1 r) (h:kD p0 p1=some r):Sc 38 [aX (M.aE.en p0),aX (M.aE.en p1)] [rB r]:=by
 unfold kD at h
 simp only [EN]
 refine sgn 10 [.tmp 4] Tryz.func38 fun base wd => ?_
 refine sq (rn ?_)
 refine an (sq ?_)
 obtain ⟨x1,h2,h⟩:=bind_some h
 refine rn1 (aQS p0.Caches p1.Caches (fun z0 z1=>kS z0 z1) 136 [] (fun z0 z1 r hr=>aQM z0 z1 r hr) x1 h2) ?_
 refine an (rt ?_)
 cases h
 simp [Ret,TB,EN, *]
instance:bP 38 (type_of% @c38):=⟨@c38⟩
theorem c39 (p0 p1 r) (h:oJ p0 p1=some r):Sc 39 [aX (M.bF.en p0),aX (M.bF.en p1)] [rB r]:=by
 unfold oJ at h
 exact sgo 24 [.tmp 4] Tryz.func39
instance:bP 39 (type_of% @c39):=⟨@c39⟩
theorem c10 (p0 p1 r) (h:gQ p0 p1=some r):Sc 10 [aX (M.Bucket.en p0),aX (M.Bucket.en p1)] [rB r]:=by
 unfold gQ at h
 exact sgo 59 [.tmp 4] Tryz.func10
instance:bP 10 (type_of% @c10):=⟨@c10⟩
theorem c13 (p0 p1 p2 r) (h:lG p0 p1 p2=some r):Sc 13 [aX (M.Bucket.en p0),aX (M.aE.en p1),aX (M.Registration.en p2)] [(true,M.Bucket.rs r.1),rB r.2]:=by
 unfold lG at h
 exact sgo 19 [.cell 6 46,.tmp 7] Tryz.func13
instance:bP 13 (type_of% @c13):=⟨@c13⟩
theorem c48 (p0 r) (h:tK p0=some r):Sc 48 [aI p0] [(true,M.aG.rs r.1),rB r.2]:=by
 unfold tK at h
 exact sgo 12 [.cell 2 40,.tmp 3] Tryz.func48
instance:bP 48 (type_of% @c48):=⟨@c48⟩
theorem c15 (p0 p1 p2 r) (h:pM p0 p1 p2=some r):Sc 15 [aS p0,aS p1,aI p2] [(true,M.Bucket.rs r.1),rB r.2]:=by
 unfold pM at h
 exact sgo 38 [.cell 6 46,.tmp 7] Tryz.func15
instance:bP 15 (type_of% @c15):=⟨@c15⟩
end Go.Proofs.YtidhkhdnjonjfaaGreat.gen
