/-
  Helper text. No conditions.
-/
import Derived.Test.YtipmihbgjolaaaaGreatCompleteCachesTi
import Derived.Test.YtipmihbgjolaaaaGreatCompleteCachesWimpl0
import Derived.Test.YtipmihbgjolaaaaGreatCompleteCachesWimpl1
set_option linter.unusedVariables false
set_option linter.unusedSimpArgs false
namespace Go.Proofs.YtipmihbgjolaaaaGreat.gen
open Go Go.Sh
set_option maxRecDepth 20000
set_option maxHeartbeats 4000000
theorem aCA (p0 p1 r) (h:vH p0 p1=some r):Sc 111 [aX (M.aC.en p0),aI p1] [rI r]:=by
 unfold vH at h
 simp only [EN]
 refine sgn 9 [.tmp 4] Tryz.func111 λbase wd => ?_
 refine sq (rn ?_)
 refine an (sq ?_)
 obtain ⟨x1,h2,h⟩:=bind_some h
 refine rn1 (aFr p0.aGi (λz0=>vW z0 p1) 195 [.ptr [.int .i64 p1]] (λz0 r hr=>aGK z0 p1 r hr) x1 h2) ?_
 refine an (rt ?_)
 cases h
 simp [Ret,TB,EN, *]
instance:bF 111 (type_of% @aCA):=⟨@aCA⟩
theorem aFQ (p0 p1 p2 r) (h:pG p0 p1 p2=some r):Sc 189 [aX (M.aGo.en p0),aS p1,aS p2] [rI r]:=by
 unfold pG at h
 simp only [EN]
 refine sgn 11 [.tmp 6] Tryz.func189 λbase wd => ?_
 refine sq (rn ?_)
 refine an (sq ?_)
 obtain ⟨x1,h2,h⟩:=bind_some h
 refine rn1 (aGW p0.aGs (λz0=>uT z0 p1 p2) 272 [.ptr [.str p1],.ptr [.str p2]] (λz0 r hr=>aGH z0 p1 p2 r hr) x1 h2) ?_
 refine an (rt ?_)
 cases h
 simp [Ret,TB,EN, *]
instance:bF 189 (type_of% @aFQ):=⟨@aFQ⟩
theorem aBp (p0 r) (h:lL p0=some r):Sc 190 [aX (M.aGm.en p0)] [(true,M.aGm.rs r)]:=by unfold lL at h;exact sgo 8 [.cell 2 105] Tryz.func190
instance:bF 190 (type_of% @aBp):=⟨@aBp⟩
theorem aCs (p0 p1 p2 p3 r) (h:xW p0 p1 p2 p3=some r):Sc 108 [aX (M.aC.en p0),aI p1,aS p2,aS p3] [(true,M.aGm.rs r.1),rB r.2]:=by unfold xW at h;exact sgo 40 [.cell 8 105,.tmp 9] Tryz.func108
instance:bF 108 (type_of% @aCs):=⟨@aCs⟩
theorem aC6 (p0 p1 r) (h:oE p0 p1=some r):Sc 109 [aL enB p0,aL enB p1] [rB r]:=by unfold oE at h;exact sgo 8 [.tmp 4] Tryz.func109
instance:bF 109 (type_of% @aC6):=⟨@aC6⟩
theorem aE8 (p0 r) (h:tX p0=some r):Sc 127 [aX (M.aC.en p0)] [(true,M.aC.rs r)]:=by
 have i1:=D5 [.b 3 0 7050100 193 2] λm s=>∃aj:Int,∃ah:List M.aGo,∃aa:Nat,(s.t 2=vP 2 1 0/\s.t 3=vP 3 1 0/\s.t 11=vL M.aGo.en p0.aGi/\s.t 12=vI (List.length p0.aGi:Int)/\s.t 13=vI aj/\s.h 2=(1,oB 31 [.nil])/\s.h 3=(1,oB 31 [.row 7050100 aa])/\s.h 7050100=(aa,oW 193 2 M.aGo.en ah))/\eN p0 m aj ah=some r
 have e1:=@eN.eq_2
 have i2:=λ(aj:Int) (ah:List M.aGo) (ak:M.aGo) (al:Int->List M.aGw->Option M.aC) (s1:St) (aa:Nat)=>D5 [.b 6 1 7050000 195 7] λm s=>∃ai:Int,∃ae:List M.aGw,∃af:Nat,(s.t 2=vP 2 1 0/\s.t 3=vP 3 1 0/\s.t 6=vP 6 ((s1.h 6).1+1) 0/\s.t 11=vL M.aGo.en p0.aGi/\s.t 12=vI (List.length p0.aGi:Int)/\s.t 13=vI aj/\s.t 21=vL M.aGw.en ak.aGs/\s.t 22=vI (List.length ak.aGs:Int)/\s.t 23=vI ai/\s.h 2=(1,oB 31 [.nil])/\s.h 3=(1,oB 31 [.row 7050100 aa])/\s.h 6=(((s1.h 6).1+1),oB 193 [cI ak.aGg,.row 7050000 af])/\s.h 7050000=(af,oW 195 7 M.aGw.en ae)/\s.h 7050100=(aa,oW 193 2 M.aGo.en ah))/\gU ak al m ai ae=some r
 have e2:=@gU.eq_2
 unfold tX at h
 exact sgo 46 [.cell 2 31] Tryz.func127
instance:bF 127 (type_of% @aE8):=⟨@aE8⟩
theorem aDM (p0 r) (h:Ak p0=some r):Sc 224 [aX (M.aG5.en p0)] [(true,M.aG5.rs r)]:=by unfold Ak at h;exact sgo 8 [.cell 2 45] Tryz.func224
instance:bF 224 (type_of% @aDM):=⟨@aDM⟩
theorem aEN (p0 r) (h:Ar p0=some r):Sc 106 [aX (M.bJ.en p0)] [(true,M.bJ.rs r)]:=by unfold Ar at h;exact sgo 13 [.cell 2 96] Tryz.func106
instance:bF 106 (type_of% @aEN):=⟨@aEN⟩
theorem aCu (p0 r) (h:yI p0=some r):Sc 168 [aL M.bJ.en p0] [rW 96 11 M.bJ.en r]:=by
 have i1:=inv λm s=>∃v9:Int,∃r6:List M.bJ,∃u6:Nat,(s.t 3=vR 100006 u6/\s.t 7=vL M.bJ.en p0/\s.t 8=vI (List.length p0:Int)/\s.t 9=vI v9/\s.h 100006=(u6,oW 96 11 M.bJ.en r6))/\lN p0 m v9 r6=some r
 have e1:=@lN.eq_2
 unfold yI at h
 exact sgo 20 [.tmp 2] Tryz.func168
instance:bF 168 (type_of% @aCu):=⟨@aCu⟩
theorem c24 (p0 r) (h:tD p0=some r):Sc 24 [aS p0] [rI r]:=by unfold tD at h;exact sgo 6 [.tmp 2] Tryz.func24
instance:bF 24 (type_of% @c24):=⟨@c24⟩
theorem aE5 (p0 p1 r) (h:yL p0 p1=some r):Sc 306 [aX (M.aGh.en p0),aS p1] [rI r]:=by
 unfold yL at h
 simp only [EN]
 refine sgn 9 [.tmp 4] Tryz.func306 λbase wd => ?_
 refine sq (rn ?_)
 refine an (sq ?_)
 obtain ⟨x1,h2,h⟩:=bind_some h
 refine rn1 (aF4 p0.aGq (λz0=>vV z0 p1) 362 [.ptr [.str p1]] (λz0 r hr=>aFz z0 p1 r hr) x1 h2) ?_
 refine an (rt ?_)
 cases h
 simp [Ret,TB,EN, *]
instance:bF 306 (type_of% @aE5):=⟨@aE5⟩
theorem aFS (p0 r) (h:xQ p0=some r):Sc 146 [aX (M.aC.en p0)] [rI r]:=by
 have i1:=inv λm s=>∃v3:Int,∃v11:Int,(s.t 3=vI v3/\s.t 9=vL M.aGo.en p0.aGi/\s.t 10=vI (List.length p0.aGi:Int)/\s.t 11=vI v11)/\eX p0 m v3 v11=some r
 have e1:=@eX.eq_2
 have i2:=λ(v11:Int) (x7:M.aGo) (af:Int->Int->Option Int)=>inv λm s=>∃ae:Int,∃aa:Int,(s.t 3=vI ae/\s.t 9=vL M.aGo.en p0.aGi/\s.t 10=vI (List.length p0.aGi:Int)/\s.t 11=vI v11/\s.t 16=vL M.aGw.en x7.aGs/\s.t 17=vI (List.length x7.aGs:Int)/\s.t 18=vI aa)/\jM x7 af m ae aa=some r
 have e2:=@jM.eq_2
 unfold xQ at h
 exact sgo 34 [.tmp 2] Tryz.func146
instance:bF 146 (type_of% @aFS):=⟨@aFS⟩
theorem aCI (p0 p1 r) (h:jL p0 p1=some r):Sc 323 [aL enB p0,aI p1] [rW 5 1 enB r]:=by
 have i1:=inv λm s=>∃v1:Int,∃r7:List Int,∃u7:Nat,(s.t 1=vI v1/\s.t 5=vR 100007 u7/\s.h 100007=(u7,oW 5 1 enB r7))/\gD m v1 r7=some r
 have e1:=@gD.eq_2
 unfold jL at h
 exact sgo 28 [.tmp 4] Tryz.func323
instance:bF 323 (type_of% @aCI):=⟨@aCI⟩
theorem aEo (p0 p1 r) (h:wC p0 p1=some r):Sc 324 [aL enB p0,aL enB p1] [rW 5 1 enB r]:=by unfold wC at h;exact sgo 11 [.tmp 4] Tryz.func324
instance:bF 324 (type_of% @aEo):=⟨@aEo⟩
theorem aDT (p0 p1 r) (h:pQ p0 p1=some r):Sc 371 [aX (M.aGm.en p0),aX (M.aGm.en p1)] [rB r]:=by unfold pQ at h;exact sgo 38 [.tmp 4] Tryz.func371
instance:bF 371 (type_of% @aDT):=⟨@aDT⟩
theorem aED (p0 p1 r) (h:sC p0 p1=some r):Sc 162 [aX (M.aGu.en p0),aX (M.aGu.en p1)] [rB r]:=by unfold sC at h;exact sgo 45 [.tmp 4] Tryz.func162
instance:bF 162 (type_of% @aED):=⟨@aED⟩
theorem c90 (p0 p1 r) (h:gJ p0 p1=some r):Sc 90 [aX (M.bJ.en p0),aX (M.bJ.en p1)] [rB r]:=by unfold gJ at h;exact sgo 45 [.tmp 4] Tryz.func90
end Go.Proofs.YtipmihbgjolaaaaGreat.gen
