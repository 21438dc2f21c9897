/-
  Helper text. No conditions.
-/
import Derived.Test.YtipmihbgjolaaaaGreatCompleteCachesTi
import Derived.Test.YtipmihbgjolaaaaGreatCompleteCachesWimpl0
import Derived.Test.YtipmihbgjolaaaaGreatCompleteCachesWimpl1
import Derived.Test.YtipmihbgjolaaaaGreatCompleteCachesWimpl2
import Derived.Test.YtipmihbgjolaaaaGreatCompleteCachesWimpl3
import Derived.Test.YtipmihbgjolaaaaGreatCompleteCachesWimpl4
import Derived.Test.YtipmihbgjolaaaaGreatCompleteCachesWlib
set_option linter.unusedVariables false
set_option linter.unusedSimpArgs false
namespace Go.Proofs.YtipmihbgjolaaaaGreat.gen
open Go Go.Sh
set_option maxRecDepth 20000
set_option maxHeartbeats 4000000
theorem aCc (p0 p1 r) (h:jH p0 p1=some r):Sc 193 [aI p0,aS p1] [rI r]:=by unfold jH at h;exact sgo 14 [.tmp 4] Tryz.func193
instance:bF 193 (type_of% @aCc):=⟨@aCc⟩
theorem aDZ (p0 p1 p2 r) (h:wB p0 p1 p2=some r):Sc 110 [aX (M.aGl.en p0),aS p1,aI p2] [rW 5 1 enB r]:=by
 have i1:=λ(x5:Int)=>inv λm s=>∃v9:Int,∃aa:List Int,∃ae:Nat,(s.t 7=vI x5/\s.t 8=vR 100019 ae/\s.t 9=vI v9/\s.h 100019=(ae,oW 5 1 enB aa))/\bV x5 m v9 aa=some r
 have e1:=@bV.eq_2
 unfold wB at h
 exact sgo 33 [.tmp 6] Tryz.func110
instance:bF 110 (type_of% @aDZ):=⟨@aDZ⟩
theorem aDO (p0 r) (h:zW p0=some r):Sc 128 [aX (M.bW.en p0)] [(true,M.bW.rs r)]:=by unfold zW at h;exact sgo 12 [.cell 2 37] Tryz.func128
instance:bF 128 (type_of% @aDO):=⟨@aDO⟩
theorem c48 (p0 r) (h:xK p0=some r):Sc 48 [aX (M.aG.en p0)] [(true,M.aG.rs r)]:=by unfold xK at h;exact sgo 16 [.cell 2 49] Tryz.func48
instance:bF 48 (type_of% @c48):=⟨@c48⟩
theorem aFL (p0 r) (h:wP p0=some r):Sc 152 [aX (M.aD.en p0)] [rB r]:=by
 have i1:=inv λm s=>∃v8:Int,(s.t 1=vP 1 1 0/\s.t 6=vL M.aG1.en p0.aGk/\s.t 7=vI (List.length p0.aGk:Int)/\s.t 8=vI v8/\s.h 1=(1,oX 40 (M.aD.en p0)))/\jF p0 m v8=some r
 have e1:=@jF.eq_2
 unfold wP at h
 exact sgo 55 [.tmp 2] Tryz.func152
instance:bF 152 (type_of% @aFL):=⟨@aFL⟩
theorem aDB (p0 p1 r) (h:AV p0 p1=some r):Sc 364 [aX (M.aD.en p0),aS p1] [rW 284 4 M.aG1.en r]:=by
 have i1:=inv λm s=>∃ah:Int,∃ae:List M.aG1,∃af:Nat,(s.t 1=vS p1/\s.t 5=vR 100011 af/\s.t 13=vL M.aG1.en p0.aGk/\s.t 14=vI (List.length p0.aGk:Int)/\s.t 15=vI ah/\s.h 100011=(af,oW 284 4 M.aG1.en ae))/\lS p0 p1 m ah ae=some r
 have e1:=@lS.eq_2
 have i2:=λ(ah:Int) (ae:List M.aG1) (ai:M.aG1) (aj:Int->Option (List M.aG1)) (s7:St) (af:Nat)=>inv λm s=>∃aa:Int,(s.t 1=vS p1/\s.t 5=vR 100011 af/\s.t 7=vP 7 ((s7.h 7).1+1) 0/\s.t 10=vI aa/\s.t 13=vL M.aG1.en p0.aGk/\s.t 14=vI (List.length p0.aGk:Int)/\s.t 15=vI ah/\s.h 7=(((s7.h 7).1+1),oX 284 (M.aG1.en ai))/\s.h 100011=(af,oW 284 4 M.aG1.en ae))/\oR p1 ae ai aj m aa=some r
 have e2:=@oR.eq_2
 unfold AV at h
 exact sgo 52 [.tmp 4] Tryz.func364
instance:bF 364 (type_of% @aDB):=⟨@aDB⟩
theorem aEp (p0 p1 r) (h:jV p0 p1=some r):Sc 308 [aX (M.aD.en p0),aS p1] [(true,M.Key.rs r.1),(true,M.Key.rs r.2.1),rB r.2.2]:=by
 have i1:=λ(x1:(List M.aG1))=>inv λm s=>∃v8:Int,(s.t 1=vS p1/\s.t 4=vP 4 1 0/\s.t 5=vP 5 1 0/\s.t 7=vR 100015 1/\s.t 8=vI v8/\s.h 4=(1,oB 209 [cI 0,cI 0,cS (⟨#[]⟩:ByteArray)])/\s.h 5=(1,oB 209 [cI 0,cI 0,cS (⟨#[]⟩:ByteArray)])/\s.h 100015=(1,oW 284 4 M.aG1.en x1))/\fQ p1 x1 m v8=some r
 have e1:=@fQ.eq_2
 unfold jV at h
 exact sgo 59 [.cell 4 209,.cell 5 209,.tmp 6] Tryz.func308
instance:bF 308 (type_of% @aEp):=⟨@aEp⟩
theorem aFi (p0 r) (h:zZ p0=some r):Sc 309 [aX (M.aM.en p0)] [rB r]:=by
 have i1:=inv λm s=>∃aa:Int,(s.t 1=vP 1 1 0/\s.t 3=vI (List.length p0.aG0:Int)/\s.t 10=vL M.bC.en p0.aG0/\s.t 11=vI (List.length p0.aG0:Int)/\s.t 12=vI aa/\s.h 1=(1,oX 43 (M.aM.en p0)))/\mR p0 m aa=some r
 have e1:=@mR.eq_2
 unfold zZ at h
 exact sgo 51 [.tmp 2] Tryz.func309
instance:bF 309 (type_of% @aFi):=⟨@aFi⟩
theorem aFZ (p0 r) (h:yW p0=some r):Sc 229 [aX (M.aH.en p0)] [rB r]:=by unfold yW at h;exact sgo 23 [.tmp 2] Tryz.func229
instance:bF 229 (type_of% @aFZ):=⟨@aFZ⟩
theorem aEb (p0 r) (h:tW p0=some r):Sc 248 [aX (M.aE.en p0)] [rW 5 1 enB r]:=by
 have i1:=D5 [.t 3 7050000 5 1] λm s=>∃af:Int,∃aa:List Int,∃ae:Nat,(s.t 3=vR 7050000 ae/\s.t 15=vL M.Field.en p0.aGn/\s.t 16=vI (List.length p0.aGn:Int)/\s.t 17=vI af/\s.h 7050000=(ae,oW 5 1 enB aa))/\gY p0 m af aa=some r
 have e1:=@gY.eq_2
 unfold tW at h
 exact sgo 31 [.tmp 2] Tryz.func248
instance:bF 248 (type_of% @aEb):=⟨@aEb⟩
theorem aBv (p0 r) (h:uW p0=some r):Sc 148 [aX (M.aD.en p0)] [rI r]:=by
 have i1:=inv λm s=>∃v3:Int,∃v9:Int,(s.t 3=vI v3/\s.t 7=vL M.aG1.en p0.aGk/\s.t 8=vI (List.length p0.aGk:Int)/\s.t 9=vI v9)/\lB p0 m v3 v9=some r
 have e1:=@lB.eq_2
 unfold uW at h
 exact sgo 26 [.tmp 2] Tryz.func148
instance:bF 148 (type_of% @aBv):=⟨@aBv⟩
theorem c74 (p0 r) (h:Ai p0=some r):Sc 74 [aX (M.aGr.en p0)] [rB r]:=by
 have i1:=inv λm s=>∃v10:Int,(s.t 1=vP 1 1 0/\s.t 8=vL M.aP.en p0.aP/\s.t 9=vI (List.length p0.aP:Int)/\s.t 10=vI v10/\s.h 1=(1,oX 137 (M.aGr.en p0)))/\hY p0 m v10=some r
 have e1:=@hY.eq_2
 have i2:=inv λm s=>∃aa:Int,(s.t 1=vP 1 1 0/\s.t 43=vL M.bC.en p0.aG9/\s.t 44=vI (List.length p0.aG9:Int)/\s.t 45=vI aa/\s.h 1=(1,oX 137 (M.aGr.en p0)))/\jU p0 m aa=some r
 have e2:=@jU.eq_2
 unfold Ai at h
 exact sgo 68 [.tmp 2] Tryz.func74
instance:bF 74 (type_of% @c74):=⟨@c74⟩
theorem aCZ (p0 r) (h:AW p0=some r):Sc 120 [aX (M.aGl.en p0)] [(true,M.aGl.rs r.1),rB r.2]:=by unfold AW at h;exact sgo 22 [.cell 2 85,.tmp 3] Tryz.func120
instance:bF 120 (type_of% @aCZ):=⟨@aCZ⟩
theorem aFw (p0 p1 r) (h:rK p0 p1=some r):Sc 240 [aX (M.aGo.en p0),aX (M.aGo.en p1)] [rB r]:=by
 unfold rK at h
 simp only [EN]
 refine sgn 17 [.tmp 4] Tryz.func240 λbase wd => ?_
 refine sq (rn ?_)
 refine an (sq ?_)
 rcases CH (p0.aGg==p1.aGg) with b1 | b1
 ·replace h:=cR b1 h;refine rn ?_;refine an (rt ?_);cases h;simp [Ret,TB,EN, *]
 replace h:=cT b1 h
 obtain ⟨x2,h3,h⟩:=bind_some h
 refine rn1 (aGa p0.aGs p1.aGs (λz0 z1=>pW z0 z1) 319 [] (λz0 z1 r hr=>aGF z0 z1 r hr) x2 h3) ?_
 refine an (rt ?_)
 cases h
 simp [Ret,TB,EN, *]
theorem aEV (p0 p1 r) (h:pJ p0 p1=some r):Sc 137 [aX (M.aC.en p0),aX (M.aC.en p1)] [rB r]:=by
 unfold pJ at h
 simp only [EN]
 refine sgn 10 [.tmp 4] Tryz.func137 λbase wd => ?_
 refine sq (rn ?_)
 refine an (sq ?_)
 obtain ⟨x1,h2,h⟩:=bind_some h
 refine rn1 (aGJ p0.aGi p1.aGi (λz0 z1=>rK z0 z1) 240 [] (λz0 z1 r hr=>aFw z0 z1 r hr) x1 h2) ?_
 refine an (rt ?_)
 cases h
 simp [Ret,TB,EN, *]
instance:bF 137 (type_of% @aEV):=⟨@aEV⟩
theorem aFB (p0 p1 r) (h:pP p0 p1=some r):Sc 241 [aX (M.aGh.en p0),aX (M.aGh.en p1)] [rB r]:=by
 unfold pP at h
 simp only [EN]
 refine sgn 31 [.tmp 4] Tryz.func241 λbase wd => ?_
 refine sq (rn ?_)
 refine an (sq ?_)
 rcases CH (p0.Name.toList==p1.Name.toList) with b1 | b1
 ·replace h:=cR b1 h;refine rn ?_;refine an (rt ?_);cases h;simp [Ret,TB,EN, *]
 replace h:=cT b1 h
 rcases CH (p0.aGg==p1.aGg) with b2 | b2
 ·replace h:=cR b2 h;refine rn ?_;refine an (rt ?_);cases h;simp [Ret,TB,EN, *]
 replace h:=cT b2 h
 obtain ⟨x3,h4,h⟩:=bind_some h
 rcases CH x3 with b5 | b5
 ·replace h:=cR b5 h;refine rn1 (aDY p0.aGq p1.aGq (λz0 z1=>gZ z0 z1) 164 [] (λz0 z1 r hr=>aAU z0 z1 r hr) x3 h4) ?_;refine an (rt ?_);cases h;simp [Ret,TB,EN, *]
 replace h:=cT b5 h
 obtain ⟨x6,h7,h⟩:=bind_some h
 refine rn2 (aDY p0.aGq p1.aGq (λz0 z1=>gZ z0 z1) 164 [] (λz0 z1 r hr=>aAU z0 z1 r hr) x3 h4) (aF2 _ _ _ h7) ?_
 refine an (rt ?_)
 cases h
 simp [Ret,TB,EN, *]
instance:bF 241 (type_of% @aFB):=⟨@aFB⟩
theorem aDP (p0 p1 r) (h:xG p0 p1=some r):Sc 138 [aX (M.bW.en p0),aX (M.bW.en p1)] [rB r]:=by unfold xG at h;exact sgo 24 [.tmp 4] Tryz.func138
instance:bF 138 (type_of% @aDP):=⟨@aDP⟩
theorem aFE (p0 p1 r) (h:sD p0 p1=some r):Sc 139 [aX (M.aH.en p0),aX (M.aH.en p1)] [rB r]:=by unfold sD at h;exact sgo 24 [.tmp 4] Tryz.func139
instance:bF 139 (type_of% @aFE):=⟨@aFE⟩
theorem c96 (p0 p1 r) (h:pA p0 p1=some r):Sc 96 [aX (M.aGr.en p0),aX (M.aGr.en p1)] [rB r]:=by unfold pA at h;exact sgo 24 [.tmp 4] Tryz.func96
end Go.Proofs.YtipmihbgjolaaaaGreat.gen
