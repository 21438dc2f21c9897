/-
  Helper text. No conditions.
-/
import Derived.Test.YtipmihbgjolaaaaGreatLoadedFilesTi
import Derived.Test.YtipmihbgjolaaaaGreatLoadedFilesWimpl0
import Derived.Test.YtipmihbgjolaaaaGreatLoadedFilesWimpl1
import Derived.Test.YtipmihbgjolaaaaGreatLoadedFilesWimpl2
set_option linter.unusedVariables false
set_option linter.unusedSimpArgs false
namespace Go.Proofs.YtipmihbgjolaaaaGreat.gen
open Go Go.Sh
set_option maxRecDepth 20000
set_option maxHeartbeats 4000000
theorem aCp (p0 r) (h:iG p0=some r):Sc 106 [aX (M.bC.en p0)] [(true,M.bC.rs r)]:=by unfold iG at h;exact sgo 13 [.cell 2 96] Tryz.func106
instance:bH 106 (type_of% @aCp):=⟨@aCp⟩
theorem aCg (p0 p1 p2 r) (h:zX p0 p1 p2=some r):Sc 249 [aS p0,aI p1,aB p2] [rB r]:=by
 have i1:=inv λm s=>∃v7:Int,(s.t 0=vS p0/\s.t 1=vI p1/\s.t 2=vB p2/\s.t 7=vI v7)/\iM p0 p1 p2 m v7=some r
 have e1:=@iM.eq_2
 unfold zX at h
 exact sgo 38 [.tmp 6] Tryz.func249
instance:bH 249 (type_of% @aCg):=⟨@aCg⟩
theorem aDp (p0 p1 p2 r) (h:oK p0 p1 p2=some r):Sc 189 [aX (M.aFE.en p0),aS p1,aS p2] [rI r]:=by
 unfold oK at h
 simp only [EN]
 refine sgn 11 [.tmp 6] Tryz.func189 λbase wd => ?_
 refine sq (rn ?_)
 refine an (sq ?_)
 obtain ⟨x1,h2,h⟩:=bind_some h
 refine rn1 (aEt p0.aFK (λz0=>tV z0 p1 p2) 272 [.ptr [.str p1],.ptr [.str p2]] (λz0 r hr=>aEe z0 p1 p2 r hr) x1 h2) ?_
 refine an (rt ?_)
 cases h
 simp [Ret,TB,EN, *]
instance:bH 189 (type_of% @aDp):=⟨@aDp⟩
theorem aAM (p0 p1 r) (h:zZ p0 p1=some r):Sc 327 [aS p0,aS p1] [rI r]:=by unfold zZ at h;exact sgo 8 [.tmp 4] Tryz.func327
instance:bH 327 (type_of% @aAM):=⟨@aAM⟩
theorem aDT (p0 p1 r) (h:xT p0 p1=some r):Sc 306 [aX (M.aE5.en p0),aS p1] [rI r]:=by
 unfold xT at h
 simp only [EN]
 refine sgn 9 [.tmp 4] Tryz.func306 λbase wd => ?_
 refine sq (rn ?_)
 refine an (sq ?_)
 obtain ⟨x1,h2,h⟩:=bind_some h
 refine rn1 (aER p0.aFH (λz0=>uQ z0 p1) 362 [.ptr [.str p1]] (λz0 r hr=>aEL z0 p1 r hr) x1 h2) ?_
 refine an (rt ?_)
 cases h
 simp [Ret,TB,EN, *]
instance:bH 306 (type_of% @aDT):=⟨@aDT⟩
theorem aAy (p0 p1 r) (h:BS p0 p1=some r):Sc 394 [aX (M.aD.en p0),aS p1] [rI r]:=by
 unfold BS at h
 simp only [EN]
 refine sgn 9 [.tmp 4] Tryz.func394 λbase wd => ?_
 refine sq (rn ?_)
 refine an (sq ?_)
 obtain ⟨x1,h2,h⟩:=bind_some h
 refine rn1 (aEF p0.aFA (λz0=>xO z0 p1) 407 [.ptr [.str p1]] (λz0 r hr=>aEj z0 p1 r hr) x1 h2) ?_
 refine an (rt ?_)
 cases h
 simp [Ret,TB,EN, *]
instance:bH 394 (type_of% @aAy):=⟨@aAy⟩
theorem aDr (p0 r) (h:wX p0=some r):Sc 146 [aX (M.aE.en p0)] [rI r]:=by
 have i1:=inv λm s=>∃v3:Int,∃v11:Int,(s.t 3=vI v3/\s.t 9=vL M.aFE.en p0.aE6/\s.t 10=vI (List.length p0.aE6:Int)/\s.t 11=vI v11)/\eR p0 m v3 v11=some r
 have e1:=@eR.eq_2
 have i2:=λ(v11:Int) (x7:M.aFE) (af:Int->Int->Option Int)=>inv λm s=>∃ae:Int,∃aa:Int,(s.t 3=vI ae/\s.t 9=vL M.aFE.en p0.aE6/\s.t 10=vI (List.length p0.aE6:Int)/\s.t 11=vI v11/\s.t 16=vL M.aFL.en x7.aFK/\s.t 17=vI (List.length x7.aFK:Int)/\s.t 18=vI aa)/\jF x7 af m ae aa=some r
 have e2:=@jF.eq_2
 unfold wX at h
 exact sgo 34 [.tmp 2] Tryz.func146
instance:bH 146 (type_of% @aDr):=⟨@aDr⟩
theorem c12 (p0 p1 p2 r) (h:nN p0 p1 p2=some r):Sc 12 [aX (M.aA.en p0),aS p1,aS p2] [rI r]:=by
 unfold nN at h
 simp only [EN]
 refine sgn 11 [.tmp 6] Tryz.func12 λbase wd => ?_
 refine sq (rn ?_)
 refine an (sq ?_)
 obtain ⟨x1,h2,h⟩:=bind_some h
 refine rn1 (c59 p0.aE8 (λz0=>sR z0 p1 p2) 60 [.ptr [.str p1],.ptr [.str p2]] (λz0 r hr=>c60 z0 p1 p2 r hr) x1 h2) ?_
 refine an (rt ?_)
 cases h
 simp [Ret,TB,EN, *]
instance:bH 12 (type_of% @c12):=⟨@c12⟩
theorem aAl (p0 p1 r) (h:yE p0 p1=some r):Sc 111 [aX (M.aE.en p0),aI p1] [rI r]:=by
 unfold yE at h
 simp only [EN]
 refine sgn 9 [.tmp 4] Tryz.func111 λbase wd => ?_
 refine sq (rn ?_)
 refine an (sq ?_)
 obtain ⟨x1,h2,h⟩:=bind_some h
 refine rn1 (aEE p0.aE6 (λz0=>uR z0 p1) 195 [.ptr [.int .i64 p1]] (λz0 r hr=>aEh z0 p1 r hr) x1 h2) ?_
 refine an (rt ?_)
 cases h
 simp [Ret,TB,EN, *]
instance:bH 111 (type_of% @aAl):=⟨@aAl⟩
theorem aBP (p0 p1 r) (h:pC p0 p1=some r):Sc 375 [aL enS p0,aS p1] [rB r]:=by unfold pC at h;exact sgo 9 [.tmp 4] Tryz.func375
instance:bH 375 (type_of% @aBP):=⟨@aBP⟩
theorem aDS (p0 p1 r) (h:DM p0 p1=some r):Sc 338 [aI p0,aI p1] [rI r]:=by unfold DM at h;exact sgo 18 [.tmp 4] Tryz.func338
instance:bH 338 (type_of% @aDS):=⟨@aDS⟩
theorem aBh (p0 p1 r) (h:sC p0 p1=some r):Sc 109 [aL enB p0,aL enB p1] [rB r]:=by unfold sC at h;exact sgo 8 [.tmp 4] Tryz.func109
instance:bH 109 (type_of% @aBh):=⟨@aBh⟩
theorem aDx (p0 p1 r) (h:sS p0 p1=some r):Sc 331 [aX (M.aD.en p0),aX (M.aD.en p1)] [rB r]:=by unfold sS at h;exact sgo 10 [.tmp 4] Tryz.func331
instance:bH 331 (type_of% @aDx):=⟨@aDx⟩
theorem aCh (p0 p1 r) (h:rE p0 p1=some r):Sc 162 [aX (M.aFI.en p0),aX (M.aFI.en p1)] [rB r]:=by unfold rE at h;exact sgo 45 [.tmp 4] Tryz.func162
instance:bH 162 (type_of% @aCh):=⟨@aCh⟩
theorem c94 (p0 p1 r) (h:nQ p0 p1=some r):Sc 94 [aX (M.aFD.en p0),aX (M.aFD.en p1)] [rB r]:=by unfold nQ at h;exact sgo 31 [.tmp 4] Tryz.func94
end Go.Proofs.YtipmihbgjolaaaaGreat.gen
