/-
  Helper text. No conditions.
-/
import Derived.Test.YtipmihbgjolaaaaGreatLoadedFilesTi
import Derived.Test.YtipmihbgjolaaaaGreatLoadedFilesWimpl0
import Derived.Test.YtipmihbgjolaaaaGreatLoadedFilesWimpl1
import Derived.Test.YtipmihbgjolaaaaGreatLoadedFilesWimpl2
import Derived.Test.YtipmihbgjolaaaaGreatLoadedFilesWimpl3
import Derived.Test.YtipmihbgjolaaaaGreatLoadedFilesWimpl4
import Derived.Test.YtipmihbgjolaaaaGreatLoadedFilesWimpl5
import Derived.Test.YtipmihbgjolaaaaGreatLoadedFilesWimpl6
import Derived.Test.YtipmihbgjolaaaaGreatLoadedFilesWlib
set_option linter.unusedVariables false
set_option linter.unusedSimpArgs false
namespace Go.Proofs.YtipmihbgjolaaaaGreat.gen
open Go Go.Sh
set_option maxRecDepth 20000
set_option maxHeartbeats 4000000
theorem aBx (p0 r) (h:zA p0=some r):Sc 128 [aX (M.bV.en p0)] [(true,M.bV.rs r)]:=by unfold zA at h;exact sgo 12 [.cell 2 37] Tryz.func128
instance:bH 128 (type_of% @aBx):=⟨@aBx⟩
theorem c48 (p0 r) (h:wQ p0=some r):Sc 48 [aX (M.aJ.en p0)] [(true,M.aJ.rs r)]:=by unfold wQ at h;exact sgo 16 [.cell 2 49] Tryz.func48
instance:bH 48 (type_of% @c48):=⟨@c48⟩
theorem aDk (p0 r) (h:vV p0=some r):Sc 152 [aX (M.aC.en p0)] [rB r]:=by
 have i1:=inv λm s=>∃v8:Int,(s.t 1=vP 1 1 0/\s.t 6=vL M.aFP.en p0.aE7/\s.t 7=vI (List.length p0.aE7:Int)/\s.t 8=vI v8/\s.h 1=(1,oX 40 (M.aC.en p0)))/\iX p0 m v8=some r
 have e1:=@iX.eq_2
 unfold vV at h
 exact sgo 55 [.tmp 2] Tryz.func152
instance:bH 152 (type_of% @aDk):=⟨@aDk⟩
theorem aBl (p0 p1 r) (h:Av p0 p1=some r):Sc 364 [aX (M.aC.en p0),aS p1] [rW 284 4 M.aFP.en r]:=by
 have i1:=inv λm s=>∃ah:Int,∃ae:List M.aFP,∃af:Nat,(s.t 1=vS p1/\s.t 5=vR 100011 af/\s.t 13=vL M.aFP.en p0.aE7/\s.t 14=vI (List.length p0.aE7:Int)/\s.t 15=vI ah/\s.h 100011=(af,oW 284 4 M.aFP.en ae))/\lB p0 p1 m ah ae=some r
 have e1:=@lB.eq_2
 have i2:=λ(ah:Int) (ae:List M.aFP) (ai:M.aFP) (aj:Int->Option (List M.aFP)) (s7:St) (af:Nat)=>inv λm s=>∃aa:Int,(s.t 1=vS p1/\s.t 5=vR 100011 af/\s.t 7=vP 7 ((s7.h 7).1+1) 0/\s.t 10=vI aa/\s.t 13=vL M.aFP.en p0.aE7/\s.t 14=vI (List.length p0.aE7:Int)/\s.t 15=vI ah/\s.h 7=(((s7.h 7).1+1),oX 284 (M.aFP.en ai))/\s.h 100011=(af,oW 284 4 M.aFP.en ae))/\nY p1 ae ai aj m aa=some r
 have e2:=@nY.eq_2
 unfold Av at h
 exact sgo 52 [.tmp 4] Tryz.func364
instance:bH 364 (type_of% @aBl):=⟨@aBl⟩
theorem aDE (p0 p1 r) (h:jP p0 p1=some r):Sc 308 [aX (M.aC.en p0),aS p1] [(true,M.Key.rs r.1),(true,M.Key.rs r.2.1),rB r.2.2]:=by
 have i1:=λ(x1:(List M.aFP))=>inv λm s=>∃v8:Int,(s.t 1=vS p1/\s.t 4=vP 4 1 0/\s.t 5=vP 5 1 0/\s.t 7=vR 100015 1/\s.t 8=vI v8/\s.h 4=(1,oB 209 [cI 0,cI 0,cS (⟨#[]⟩:ByteArray)])/\s.h 5=(1,oB 209 [cI 0,cI 0,cS (⟨#[]⟩:ByteArray)])/\s.h 100015=(1,oW 284 4 M.aFP.en x1))/\fH p1 x1 m v8=some r
 have e1:=@fH.eq_2
 unfold jP at h
 exact sgo 59 [.cell 4 209,.cell 5 209,.tmp 6] Tryz.func308
instance:bH 308 (type_of% @aDE):=⟨@aDE⟩
theorem aD6 (p0 r) (h:zH p0=some r):Sc 309 [aX (M.aM.en p0)] [rB r]:=by
 have i1:=inv λm s=>∃aa:Int,(s.t 1=vP 1 1 0/\s.t 3=vI (List.length p0.aFO:Int)/\s.t 10=vL M.bD.en p0.aFO/\s.t 11=vI (List.length p0.aFO:Int)/\s.t 12=vI aa/\s.h 1=(1,oX 43 (M.aM.en p0)))/\mF p0 m aa=some r
 have e1:=@mF.eq_2
 unfold zH at h
 exact sgo 51 [.tmp 2] Tryz.func309
instance:bH 309 (type_of% @aD6):=⟨@aD6⟩
theorem aDy (p0 r) (h:yC p0=some r):Sc 229 [aX (M.aG.en p0)] [rB r]:=by unfold yC at h;exact sgo 23 [.tmp 2] Tryz.func229
instance:bH 229 (type_of% @aDy):=⟨@aDy⟩
theorem aC4 (p0 r) (h:sW p0=some r):Sc 248 [aX (M.aD.en p0)] [rW 5 1 enB r]:=by
 have i1:=DV [.t 3 7050000 5 1] λm s=>∃af:Int,∃aa:List Int,∃ae:Nat,(s.t 3=vR 7050000 ae/\s.t 15=vL M.Field.en p0.aFA/\s.t 16=vI (List.length p0.aFA:Int)/\s.t 17=vI af/\s.h 7050000=(ae,oW 5 1 enB aa))/\gP p0 m af aa=some r
 have e1:=@gP.eq_2
 unfold sW at h
 exact sgo 31 [.tmp 2] Tryz.func248
instance:bH 248 (type_of% @aC4):=⟨@aC4⟩
theorem aAV (p0 r) (h:tY p0=some r):Sc 148 [aX (M.aC.en p0)] [rI r]:=by
 have i1:=inv λm s=>∃v3:Int,∃v9:Int,(s.t 3=vI v3/\s.t 7=vL M.aFP.en p0.aE7/\s.t 8=vI (List.length p0.aE7:Int)/\s.t 9=vI v9)/\kK p0 m v3 v9=some r
 have e1:=@kK.eq_2
 unfold tY at h
 exact sgo 26 [.tmp 2] Tryz.func148
instance:bH 148 (type_of% @aAV):=⟨@aAV⟩
theorem c74 (p0 r) (h:zO p0=some r):Sc 74 [aX (M.aFG.en p0)] [rB r]:=by
 have i1:=inv λm s=>∃v10:Int,(s.t 1=vP 1 1 0/\s.t 8=vL M.aO.en p0.aO/\s.t 9=vI (List.length p0.aO:Int)/\s.t 10=vI v10/\s.h 1=(1,oX 137 (M.aFG.en p0)))/\gT p0 m v10=some r
 have e1:=@gT.eq_2
 have i2:=inv λm s=>∃aa:Int,(s.t 1=vP 1 1 0/\s.t 43=vL M.bD.en p0.aFV/\s.t 44=vI (List.length p0.aFV:Int)/\s.t 45=vI aa/\s.h 1=(1,oX 137 (M.aFG.en p0)))/\jN p0 m aa=some r
 have e2:=@jN.eq_2
 unfold zO at h
 exact sgo 68 [.tmp 2] Tryz.func74
instance:bH 74 (type_of% @c74):=⟨@c74⟩
theorem aBW (p0 p1 r) (h:rP p0 p1=some r):Sc 336 [aX (M.aFD.en p0),aI p1] [rB r]:=by unfold rP at h;exact sgo 24 [.tmp 4] Tryz.func336
instance:bH 336 (type_of% @aBW):=⟨@aBW⟩
theorem aBB (p0 p1 r) (h:iZ p0 p1=some r):Sc 193 [aI p0,aS p1] [rI r]:=by unfold iZ at h;exact sgo 14 [.tmp 4] Tryz.func193
instance:bH 193 (type_of% @aBB):=⟨@aBB⟩
theorem aB6 (p0 p1 p2 r) (h:Bk p0 p1 p2=some r):Sc 110 [aX (M.aFD.en p0),aS p1,aI p2] [rW 5 1 enB r]:=by
 have i1:=λ(x5:Int)=>inv λm s=>∃v9:Int,∃aa:List Int,∃ae:Nat,(s.t 7=vI x5/\s.t 8=vR 100019 ae/\s.t 9=vI v9/\s.h 100019=(ae,oW 5 1 enB aa))/\eV x5 m v9 aa=some r
 have e1:=@eV.eq_2
 unfold Bk at h
 exact sgo 33 [.tmp 6] Tryz.func110
instance:bH 110 (type_of% @aB6):=⟨@aB6⟩
theorem aAz (p0 p1 p2 r) (h:zR p0 p1 p2=some r):Sc 101 [aX (M.bC.en p0),aS p1,aX (M.aE9.en p2)] [(true,M.bC.rs r.1),rB r.2]:=by unfold zR at h;exact sgo 43 [.cell 6 96,.tmp 7] Tryz.func101
instance:bH 101 (type_of% @aAz):=⟨@aAz⟩
theorem aEJ (p0 p1 r) (h:pN p0 p1=some r):Sc 240 [aX (M.aFE.en p0),aX (M.aFE.en p1)] [rB r]:=by
 unfold pN at h
 simp only [EN]
 refine sgn 17 [.tmp 4] Tryz.func240 λbase wd => ?_
 refine sq (rn ?_)
 refine an (sq ?_)
 rcases Cf (p0.aE3==p1.aE3) with b1 | b1
 ·replace h:=cM b1 h;refine rn ?_;refine an (rt ?_);cases h;simp [Ret,TB,EN, *]
 replace h:=cN b1 h
 obtain ⟨x2,h3,h⟩:=bind_some h
 refine rn1 (aEx p0.aFK p1.aFK (λz0 z1=>pD z0 z1) 319 [] (λz0 z1 r hr=>aEb z0 z1 r hr) x2 h3) ?_
 refine an (rt ?_)
 cases h
 simp [Ret,TB,EN, *]
theorem aCy (p0 p1 r) (h:oN p0 p1=some r):Sc 137 [aX (M.aE.en p0),aX (M.aE.en p1)] [rB r]:=by
 unfold oN at h
 simp only [EN]
 refine sgn 10 [.tmp 4] Tryz.func137 λbase wd => ?_
 refine sq (rn ?_)
 refine an (sq ?_)
 obtain ⟨x1,h2,h⟩:=bind_some h
 refine rn1 (aEg p0.aE6 p1.aE6 (λz0 z1=>pN z0 z1) 240 [] (λz0 z1 r hr=>aEJ z0 z1 r hr) x1 h2) ?_
 refine an (rt ?_)
 cases h
 simp [Ret,TB,EN, *]
instance:bH 137 (type_of% @aCy):=⟨@aCy⟩
theorem aDb (p0 p1 r) (h:oR p0 p1=some r):Sc 241 [aX (M.aE5.en p0),aX (M.aE5.en p1)] [rB r]:=by
 unfold oR at h
 simp only [EN]
 refine sgn 31 [.tmp 4] Tryz.func241 λbase wd => ?_
 refine sq (rn ?_)
 refine an (sq ?_)
 rcases Cf (p0.Name.toList==p1.Name.toList) with b1 | b1
 ·replace h:=cM b1 h;refine rn ?_;refine an (rt ?_);cases h;simp [Ret,TB,EN, *]
 replace h:=cN b1 h
 rcases Cf (p0.aE3==p1.aE3) with b2 | b2
 ·replace h:=cM b2 h;refine rn ?_;refine an (rt ?_);cases h;simp [Ret,TB,EN, *]
 replace h:=cN b2 h
 obtain ⟨x3,h4,h⟩:=bind_some h
 rcases Cf x3 with b5 | b5
 ·replace h:=cM b5 h;refine rn1 (aB5 p0.aFH p1.aFH (λz0 z1=>gQ z0 z1) 164 [] (λz0 z1 r hr=>Y5 z0 z1 r hr) x3 h4) ?_;refine an (rt ?_);cases h;simp [Ret,TB,EN, *]
 replace h:=cN b5 h
 obtain ⟨x6,h7,h⟩:=bind_some h
 refine rn2 (aB5 p0.aFH p1.aFH (λz0 z1=>gQ z0 z1) 164 [] (λz0 z1 r hr=>Y5 z0 z1 r hr) x3 h4) (aEO _ _ _ h7) ?_
 refine an (rt ?_)
 cases h
 simp [Ret,TB,EN, *]
instance:bH 241 (type_of% @aDb):=⟨@aDb⟩
theorem aBy (p0 p1 r) (h:wK p0 p1=some r):Sc 138 [aX (M.bV.en p0),aX (M.bV.en p1)] [rB r]:=by unfold wK at h;exact sgo 24 [.tmp 4] Tryz.func138
instance:bH 138 (type_of% @aBy):=⟨@aBy⟩
theorem aDd (p0 p1 r) (h:rF p0 p1=some r):Sc 139 [aX (M.aG.en p0),aX (M.aG.en p1)] [rB r]:=by unfold rF at h;exact sgo 24 [.tmp 4] Tryz.func139
instance:bH 139 (type_of% @aDd):=⟨@aDd⟩
theorem c96 (p0 p1 r) (h:oE p0 p1=some r):Sc 96 [aX (M.aFG.en p0),aX (M.aFG.en p1)] [rB r]:=by unfold oE at h;exact sgo 24 [.tmp 4] Tryz.func96
end Go.Proofs.YtipmihbgjolaaaaGreat.gen
