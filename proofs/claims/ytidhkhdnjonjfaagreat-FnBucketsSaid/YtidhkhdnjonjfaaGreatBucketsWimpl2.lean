/-
  Helper text. No conditions.
-/
import Derived.Test.YtidhkhdnjonjfaaGreatBucketsTi
import Derived.Test.YtidhkhdnjonjfaaGreatBucketsWimpl0
import Derived.Test.YtidhkhdnjonjfaaGreatBucketsWimpl1
set_option linter.unusedVariables false
set_option linter.unusedSimpArgs false
namespace Go.Proofs.YtidhkhdnjonjfaaGreat.gen
open Go Go.Sh
set_option maxRecDepth 20000
set_option maxHeartbeats 4000000
theorem aRk (p0 p1 p2 r) (h:uC p0 p1 p2=some r):Sc 151 [aS p0,aI p1,aB p2] [rB r]:=by
 have i1:=inv fun m s=>∃v7:Int,(s.t 0=vS p0∧s.t 1=vI p1∧s.t 2=vB p2∧s.t 7=vI v7)∧fA p0 p1 p2 m v7=some r
 have e1:=@fA.eq_2
 unfold uC at h
 exact sgo 38 [.tmp 6] Tryz.func151
instance:bP 151 (type_of% @aRk):=⟨@aRk⟩
theorem aTR (p0 p1 p2 r) (h:pV p0 p1 p2=some r):Sc 152 [aX (M.Cache.en p0),aS p1,aS p2] [rI r]:=by
 unfold pV at h
 simp only [EN]
 refine sgn 11 [.tmp 6] Tryz.func152 fun base wd => ?_
 refine sq (rn ?_)
 refine an (sq ?_)
 obtain ⟨x1,h2,h⟩:=bind_some h
 refine rn1 (aQI p0.Entries (fun z0=>pI z0 p1 p2) 297 [.ptr [.str p1],.ptr [.str p2]] (fun z0 r hr=>aQg z0 p1 p2 r hr) x1 h2) ?_
 refine an (rt ?_)
 cases h
 simp [Ret,TB,EN, *]
instance:bP 152 (type_of% @aTR):=⟨@aTR⟩
theorem aSs (p0 r) (h:lT p0=some r):Sc 153 [aX (M.Response.en p0)] [rB r]:=by
 unfold lT at h
 exact sgo 22 [.tmp 2] Tryz.func153
instance:bP 153 (type_of% @aSs):=⟨@aSs⟩
theorem aSF (p0 r) (h:nD p0=some r):Sc 288 [aX (M.Key.en p0)] [rB r]:=by
 unfold nD at h
 exact sgo 39 [.tmp 2] Tryz.func288
instance:bP 288 (type_of% @aSF):=⟨@aSF⟩
theorem aSL (p0 p1 r) (h:sB p0 p1=some r):Sc 412 [aS p0,aS p1] [rI r]:=by
 unfold sB at h
 exact sgo 8 [.tmp 4] Tryz.func412
instance:bP 412 (type_of% @aSL):=⟨@aSL⟩
theorem aRc (p0 p1 r) (h:pH p0 p1=some r):Sc 155 [aX (M.Database.en p0),aS p1] [rI r]:=by
 unfold pH at h
 simp only [EN]
 refine sgn 9 [.tmp 4] Tryz.func155 fun base wd => ?_
 refine sq (rn ?_)
 refine an (sq ?_)
 obtain ⟨x1,h2,h⟩:=bind_some h
 refine rn1 (aQp p0.Stores (fun z0=>nE z0 p1) 300 [.ptr [.str p1]] (fun z0 r hr=>aQm z0 p1 r hr) x1 h2) ?_
 refine an (rt ?_)
 cases h
 simp [Ret,TB,EN, *]
instance:bP 155 (type_of% @aRc):=⟨@aRc⟩
theorem aTL (p0 p1 r) (h:fL p0 p1=some r):Sc 156 [aL M.aH.en p0,aX (M.aH.en p1)] [rB r]:=by
 unfold fL at h
 exact sgo 9 [.tmp 4] Tryz.func156
instance:bP 156 (type_of% @aTL):=⟨@aTL⟩
theorem aRb (p0 p1 r) (h:vG p0 p1=some r):Sc 193 [aX (M.aC.en p0),aS p1] [rI r]:=by
 unfold vG at h
 simp only [EN]
 refine sgn 9 [.tmp 4] Tryz.func193 fun base wd => ?_
 refine sq (rn ?_)
 refine an (sq ?_)
 obtain ⟨x1,h2,h⟩:=bind_some h
 refine rn1 (aQF p0.Fields (fun z0=>pF z0 p1) 344 [.ptr [.str p1]] (fun z0 r hr=>aQj z0 p1 r hr) x1 h2) ?_
 refine an (rt ?_)
 cases h
 simp [Ret,TB,EN, *]
instance:bP 193 (type_of% @aRb):=⟨@aRb⟩
theorem aRx (p0 r) (h:oT p0=some r):Sc 415 [aX (M.Item.en p0)] [(true,M.Item.rs r)]:=by
 unfold oT at h
 exact sgo 9 [.cell 2 227] Tryz.func415
instance:bP 415 (type_of% @aRx):=⟨@aRx⟩
theorem c41 (p0 r) (h:oS p0=some r):Sc 41 [aX (M.aE.en p0)] [rI r]:=by
 have i1:=inv fun m s=>∃v3:Int,∃v11:Int,(s.t 3=vI v3∧s.t 9=vL M.Cache.en p0.Caches∧s.t 10=vI (List.length p0.Caches:Int)∧s.t 11=vI v11)∧dL p0 m v3 v11=some r
 have e1:=@dL.eq_2
 have i2:=fun (v11:Int) (x7:M.Cache) (k13:Int→Int→Option Int)=>inv fun m s=>∃v3_L2:Int,∃v18_L2:Int,(s.t 3=vI v3_L2∧s.t 9=vL M.Cache.en p0.Caches∧s.t 10=vI (List.length p0.Caches:Int)∧s.t 11=vI v11∧s.t 16=vL M.Cached.en x7.Entries∧s.t 17=vI (List.length x7.Entries:Int)∧s.t 18=vI v18_L2)∧fN x7 k13 m v3_L2 v18_L2=some r
 have e2:=@fN.eq_2
 unfold oS at h
 exact sgo 34 [.tmp 2] Tryz.func41
instance:bP 41 (type_of% @c41):=⟨@c41⟩
theorem aRM (p0 p1 r) (h:fM p0 p1=some r):Sc 290 [aL enB p0,aI p1] [rW 5 1 enB r]:=by
 have i1:=inv fun m s=>∃v1:Int,∃r7:List Int,∃u7:Nat,(s.t 1=vI v1∧s.t 5=vR 100007 u7∧s.h 100007=(u7,oW 5 1 enB r7))∧eA m v1 r7=some r
 have e1:=@eA.eq_2
 unfold fM at h
 exact sgo 28 [.tmp 4] Tryz.func290
instance:bP 290 (type_of% @aRM):=⟨@aRM⟩
theorem aRw (p0 r) (h:mI p0=some r):Sc 364 [aX (M.Response.en p0)] [(true,M.Response.rs r)]:=by
 unfold mI at h
 exact sgo 8 [.cell 2 219] Tryz.func364
instance:bP 364 (type_of% @aRw):=⟨@aRw⟩
theorem aSR (p0 r) (h:rU p0=some r):Sc 404 [aX (M.Sync.en p0)] [(true,M.Sync.rs r)]:=by
 unfold rU at h
 exact sgo 8 [.cell 2 42] Tryz.func404
instance:bP 404 (type_of% @aSR):=⟨@aSR⟩
theorem aR7 (p0 p1 r) (h:lS p0 p1=some r):Sc 138 [aL enB p0,aL enB p1] [rB r]:=by
 unfold lS at h
 exact sgo 8 [.tmp 4] Tryz.func138
instance:bP 138 (type_of% @aR7):=⟨@aR7⟩
theorem aSj (p0 p1 r) (h:mE p0 p1=some r):Sc 408 [aX (M.aC.en p0),aX (M.aC.en p1)] [rB r]:=by
 unfold mE at h
 exact sgo 10 [.tmp 4] Tryz.func408
instance:bP 408 (type_of% @aSj):=⟨@aSj⟩
theorem aRp (p0 p1 r) (h:lI p0 p1=some r):Sc 287 [aX (M.aG.en p0),aX (M.aG.en p1)] [rB r]:=by
 unfold lI at h
 exact sgo 24 [.tmp 4] Tryz.func287
instance:bP 287 (type_of% @aRp):=⟨@aRp⟩
end Go.Proofs.YtidhkhdnjonjfaaGreat.gen
