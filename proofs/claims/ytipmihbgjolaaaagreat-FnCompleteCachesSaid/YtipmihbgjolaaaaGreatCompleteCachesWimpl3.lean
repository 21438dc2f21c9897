/-
  Helper text. No conditions.
-/
import Derived.Test.YtipmihbgjolaaaaGreatCompleteCachesTi
import Derived.Test.YtipmihbgjolaaaaGreatCompleteCachesWimpl0
import Derived.Test.YtipmihbgjolaaaaGreatCompleteCachesWimpl1
set_option linter.unusedVariables false
set_option linter.unusedSimpArgs false
namespace Go.Proofs.YtipmihbgjolaaaaGreat.gen
open Go Go.Sh
set_option maxRecDepth 20000
set_option maxHeartbeats 4000000
theorem aE4 (p0 p1 r) (h:Ej p0 p1=some r):Sc 338 [aI p0,aI p1] [rI r]:=by unfold Ej at h;exact sgo 18 [.tmp 4] Tryz.func338
instance:bF 338 (type_of% @aE4):=⟨@aE4⟩
theorem aBx (p0 r) (h:Dl p0=some r):Sc 273 [aL enI p0] [rI r]:=by
 have i1:=inv λm s=>∃v3:Int,∃v8:Int,(s.t 3=vI v3/\s.t 6=vL enI p0/\s.t 7=vI (List.length p0:Int)/\s.t 8=vI v8)/\wQ p0 m v3 v8=some r
 have e1:=@wQ.eq_2
 unfold Dl at h
 exact sgo 21 [.tmp 2] Tryz.func273
instance:bF 273 (type_of% @aBx):=⟨@aBx⟩
theorem aCG (p0 r) (h:xT p0=some r):Sc 302 [aX (M.aG1.en p0)] [(true,M.aG1.rs r)]:=by unfold xT at h;exact sgo 9 [.cell 2 284] Tryz.func302
instance:bF 302 (type_of% @aCG):=⟨@aCG⟩
theorem aB4 (p0 r) (h:rY p0=some r):Sc 223 [aX (M.aD.en p0)] [(true,M.aD.rs r)]:=by
 have i1:=D5 [.b 3 1 7050000 284 4] λm s=>∃af:Int,∃aa:List M.aG1,∃ae:Nat,(s.t 2=vP 2 1 0/\s.t 3=vP 3 1 0/\s.t 12=vL M.aG1.en p0.aGk/\s.t 13=vI (List.length p0.aGk:Int)/\s.t 14=vI af/\s.h 2=(1,oB 40 [cS (⟨#[]⟩:ByteArray),.nil,cI 0])/\s.h 3=(1,oB 40 [cS p0.Name,.row 7050000 ae,cI p0.aHD])/\s.h 7050000=(ae,oW 284 4 M.aG1.en aa))/\lG p0 m af aa=some r
 have e1:=@lG.eq_2
 unfold rY at h
 exact sgo 27 [.cell 2 40] Tryz.func223
instance:bF 223 (type_of% @aB4):=⟨@aB4⟩
theorem aEB (p0 p1 p2 r) (h:At p0 p1 p2=some r):Sc 249 [aS p0,aI p1,aB p2] [rB r]:=by
 have i1:=inv λm s=>∃v7:Int,(s.t 0=vS p0/\s.t 1=vI p1/\s.t 2=vB p2/\s.t 7=vI v7)/\iU p0 p1 p2 m v7=some r
 have e1:=@iU.eq_2
 unfold At at h
 exact sgo 38 [.tmp 6] Tryz.func249
instance:bF 249 (type_of% @aEB):=⟨@aEB⟩
theorem aAt (p0 r) (h:cP p0=some r):Sc 150 [aS p0] [rB r]:=by unfold cP at h;exact sgo 5 [.tmp 2] Tryz.func150
instance:bF 150 (type_of% @aAt):=⟨@aAt⟩
theorem aCM (p0 r) (h:tB p0=some r):Sc 305 [aX (M.aGm.en p0)] [rB r]:=by unfold tB at h;exact sgo 22 [.tmp 2] Tryz.func305
instance:bF 305 (type_of% @aCM):=⟨@aCM⟩
theorem aC4 (p0 r) (h:vU p0=some r):Sc 250 [aX (M.Key.en p0)] [rB r]:=by unfold vU at h;exact sgo 39 [.tmp 2] Tryz.func250
instance:bF 250 (type_of% @aC4):=⟨@aC4⟩
theorem aBm (p0 p1 r) (h:Av p0 p1=some r):Sc 327 [aS p0,aS p1] [rI r]:=by unfold Av at h;exact sgo 8 [.tmp 4] Tryz.func327
instance:bF 327 (type_of% @aBm):=⟨@aBm⟩
theorem aEn (p0 p1 r) (h:pY p0 p1=some r):Sc 252 [aX (M.Key.en p0),aX (M.Key.en p1)] [rI r]:=by unfold pY at h;exact sgo 36 [.tmp 4] Tryz.func252
instance:bF 252 (type_of% @aEn):=⟨@aEn⟩
theorem aCX (p0 p1 r) (h:jJ p0 p1=some r):Sc 307 [aL M.aO.en p0,aX (M.aO.en p1)] [rB r]:=by unfold jJ at h;exact sgo 9 [.tmp 4] Tryz.func307
instance:bF 307 (type_of% @aCX):=⟨@aCX⟩
theorem aCN (p0 p1 r) (h:Cm p0 p1=some r):Sc 394 [aX (M.aE.en p0),aS p1] [rI r]:=by
 unfold Cm at h
 simp only [EN]
 refine sgn 9 [.tmp 4] Tryz.func394 λbase wd => ?_
 refine sq (rn ?_)
 refine an (sq ?_)
 obtain ⟨x1,h2,h⟩:=bind_some h
 refine rn1 (aFs p0.aGn (λz0=>yH z0 p1) 407 [.ptr [.str p1]] (λz0 r hr=>aGM z0 p1 r hr) x1 h2) ?_
 refine an (rt ?_)
 cases h
 simp [Ret,TB,EN, *]
instance:bF 394 (type_of% @aCN):=⟨@aCN⟩
theorem aE6 (p0 p1 r) (h:mV p0 p1=some r):Sc 365 [aX (M.aE.en p0),aS p1] [rI r.1,rB r.2]:=by unfold mV at h;exact sgo 18 [.tmp 4,.tmp 5] Tryz.func365
instance:bF 365 (type_of% @aE6):=⟨@aE6⟩
theorem aDK (p0 r) (h:yU p0=some r):Sc 247 [aX (M.Key.en p0)] [rW 5 1 enB r]:=by
 have i1:=inv λm s=>∃v4:Int,∃aa:List Int,∃ae:Nat,(s.t 1=vP 1 1 0/\s.t 3=vR 100012 ae/\s.t 4=vI v4/\s.h 1=(1,oX 209 (M.Key.en p0))/\s.h 100012=(ae,oW 5 1 enB aa))/\gB p0 m v4 aa=some r
 have e1:=@gB.eq_2
 unfold yU at h
 exact sgo 34 [.tmp 2] Tryz.func247
instance:bF 247 (type_of% @aDK):=⟨@aDK⟩
theorem aEL (p0 r) (h:wY p0=some r):Sc 149 [aS p0] [rB r]:=by unfold wY at h;exact sgo 5 [.tmp 2] Tryz.func149
instance:bF 149 (type_of% @aEL):=⟨@aEL⟩
theorem c12 (p0 p1 p2 r) (h:tA p0 p1 p2=some r):Sc 12 [aX (M.aA.en p0),aS p1,aS p2] [rI r]:=by
 unfold tA at h
 simp only [EN]
 refine sgn 11 [.tmp 6] Tryz.func12 λbase wd => ?_
 refine sq (rn ?_)
 refine an (sq ?_)
 obtain ⟨x1,h2,h⟩:=bind_some h
 refine rn1 (c59 p0.aGj (λz0=>tR z0 p1 p2) 60 [.ptr [.str p1],.ptr [.str p2]] (λz0 r hr=>c60 z0 p1 p2 r hr) x1 h2) ?_
 refine an (rt ?_)
 cases h
 simp [Ret,TB,EN, *]
instance:bF 12 (type_of% @c12):=⟨@c12⟩
theorem aFY (p0 p1 r) (h:tT p0 p1=some r):Sc 331 [aX (M.aE.en p0),aX (M.aE.en p1)] [rB r]:=by unfold tT at h;exact sgo 10 [.tmp 4] Tryz.func331
instance:bF 331 (type_of% @aFY):=⟨@aFY⟩
theorem aGc (p0 p1 r) (h:tI p0 p1=some r):Sc 263 [aX (M.aG1.en p0),aX (M.aG1.en p1)] [rB r]:=by unfold tI at h;exact sgo 17 [.tmp 4] Tryz.func263
theorem aDl (p0 p1 r) (h:sM p0 p1=some r):Sc 322 [aX (M.aM.en p0),aX (M.aM.en p1)] [rB r]:=by unfold sM at h;exact sgo 24 [.tmp 4] Tryz.func322
instance:bF 322 (type_of% @aDl):=⟨@aDl⟩
theorem aB5 (p0 p1 r) (h:xV p0 p1=some r):Sc 242 [aX (M.aG5.en p0),aX (M.aG5.en p1)] [rB r]:=by unfold xV at h;exact sgo 24 [.tmp 4] Tryz.func242
instance:bF 242 (type_of% @aB5):=⟨@aB5⟩
theorem c94 (p0 p1 r) (h:oJ p0 p1=some r):Sc 94 [aX (M.aGl.en p0),aX (M.aGl.en p1)] [rB r]:=by unfold oJ at h;exact sgo 31 [.tmp 4] Tryz.func94
end Go.Proofs.YtipmihbgjolaaaaGreat.gen
