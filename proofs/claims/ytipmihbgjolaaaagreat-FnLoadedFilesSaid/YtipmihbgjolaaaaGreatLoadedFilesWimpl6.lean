/-
  Helper text. No conditions.
-/
import Derived.Test.YtipmihbgjolaaaaGreatLoadedFilesTi
import Derived.Test.YtipmihbgjolaaaaGreatLoadedFilesWimpl0
import Derived.Test.YtipmihbgjolaaaaGreatLoadedFilesWimpl1
import Derived.Test.YtipmihbgjolaaaaGreatLoadedFilesWimpl3
import Derived.Test.YtipmihbgjolaaaaGreatLoadedFilesWimpl4
import Derived.Test.YtipmihbgjolaaaaGreatLoadedFilesWimpl5
set_option linter.unusedVariables false
set_option linter.unusedSimpArgs false
namespace Go.Proofs.YtipmihbgjolaaaaGreat.gen
open Go Go.Sh
set_option maxRecDepth 20000
set_option maxHeartbeats 4000000
theorem aDH (p0 r) (h:tH p0=some r):Sc 221 [aX (M.aE5.en p0)] [(true,M.aE5.rs r)]:=by
 have i1:=DV [.b 3 2 7050000 40 3] λm s=>∃af:Int,∃aa:List M.aC,∃ae:Nat,(s.t 2=vP 2 1 0/\s.t 3=vP 3 1 0/\s.t 16=vL M.aC.en p0.aFH/\s.t 17=vI (List.length p0.aFH:Int)/\s.t 18=vI af/\s.h 2=(1,K5)/\s.h 3=(1,oB 35 [cS p0.Name,cI p0.aE3,.row 7050000 ae,.row 100010 2])/\s.h 100010=(2,oW 282 2 M.aN.en p0.aFQ)/\s.h 7050000=(ae,oW 40 3 M.aC.en aa))/\gN p0 m af aa=some r
 have e1:=@gN.eq_2
 unfold tH at h
 exact sgo 31 [.cell 2 35] Tryz.func221
instance:bH 221 (type_of% @aDH):=⟨@aDH⟩
theorem aA2 (p0 r) (h:uY p0=some r):Sc 129 [aX (M.aG.en p0)] [(true,M.aG.rs r)]:=by unfold uY at h;exact sgo 12 [.cell 2 47] Tryz.func129
instance:bH 129 (type_of% @aA2):=⟨@aA2⟩
theorem aAU (p0 r) (h:wR p0=some r):Sc 172 [aX (M.aFG.en p0)] [(true,M.aFG.rs r)]:=by unfold wR at h;exact sgo 15 [.cell 2 137] Tryz.func172
instance:bH 172 (type_of% @aAU):=⟨@aAU⟩
theorem aBR (p0 r) (h:vF p0=some r):Sc 226 [aX (M.aE4.en p0)] [rB r]:=by
 unfold vF at h
 simp only [EN]
 refine sgn 37 [.tmp 2] Tryz.func226 λbase wd => ?_
 refine sq (rn ?_)
 refine an (sq (rn ?_))
 refine an (sq (sq (rn ?_)))
 refine an (bk ?_)
 refine cu (λs=>s.t 1=vP 1 1 0/\s.t 3=vI 0/\s.t 12=vR 100012 1/\s.t 13=vI ((3:Nat):Int)/\s.t 14=vI 0/\s.h 1=(1,oX 28 (M.aE4.en p0))/\s.h 100012=(1,oW 3 1 enI ([p0.aFl,p0.aFg,p0.aFY]))/\True) ?_
 rintro s1 f2
 refine Gn (λm s=>∃v3:Int,∃aa:Int,s.t 1=vP 1 1 0/\s.t 3=vI v3/\s.t 12=vR 100012 1/\s.t 13=vI ((3:Nat):Int)/\s.t 14=vI aa/\s.h 1=(1,oX 28 (M.aE4.en p0))/\s.h 100012=(1,oW 3 1 enI ([p0.aFl,p0.aFg,p0.aFY]))/\dK p0 m v3 aa=some r) fuel ?_ ?_
 ·refine ⟨0,0,?_,?_,?_,?_,?_,?_,?_,h⟩;all_goals simp +decide only [F,reduceIte,Nat.reduceAdd,qB,qC,EN, *,-h]
 rintro mL1 s9 ⟨v3,aa,f10,f11,f12,f13,f14,f15,f16,h⟩
 rcases mL1 with _ | mL1
 ·exact absurd h (by simp [dK])
 simp only [dK] at h
 refine sq (rn ?_)
 refine an (sq ?_)
 rcases Cf (decide (aa<((3:Nat):Int))) with af | af
 ·replace h:=cM af h;refine cf (xt (DO (DB (Ie (an (sq ?_))))));obtain ⟨av,al,h⟩:=bind_some h;refine rn1 (Zu _ _ al) ?_;refine an (rt ?_);cases h;simp [Ret,TB,EN, *]
 replace h:=cN af h
 refine ct (sk (an (sq (bk (sq ?_)))))
 obtain ⟨ae,ao,h⟩:=bind_some h
 obtain ⟨aw,ax,aq⟩:=tL ao
 have q20m:=congrArg (Option.map enI) (show ([p0.aFl,p0.aFg,p0.aFY])[aa.toNat]? = some ae by assumption)
 simp only [<-List.getElem?_map,List.map_cons,List.map_nil,Option.map_some,EN] at q20m
 simp only [qJ,qK,Nat.reduceAdd] at aq
 refine rn ?_
 refine an (sq (sq ?_))
 obtain ⟨ar,ah,h⟩:=bind_some h
 rcases nX (!ar) with ai | ai
 ·replace h:=cN ai h;refine rn1 (c70 _ _ _ _ ah) ?_;refine an (ct (sq (rn ?_)));refine an (rt ?_);cases h;simp [Ret,TB,EN, *]
 replace h:=cM ai h
 rcases Cf (ae != 0) with aj | aj
 ·replace h:=cM aj h;refine rn1 (c70 _ _ _ _ ah) ?_;refine an (cf (sk (an (rn ?_))));refine ab (an (rn ?_));refine jB ⟨mL1,qb,(if ae>v3 then ae else v3),(IntKind.i64.wrap (aa+1)),?_,?_,?_,?_,?_,?_,?_,h⟩;all_goals simp +decide only [F,reduceIte,Nat.reduceAdd,qB,qC,EN, *,-h]
 replace h:=cN aj h
 refine rn1 (c70 _ _ _ _ ah) ?_
 refine an ?_
 rcases nX (decide (ae<=v3)) with ak | ak
 ·replace h:=cN ak h;refine ct (sq (rn ?_));refine an (rt ?_);cases h;simp [Ret,TB,EN, *]
 replace h:=cM ak h
 refine cf (sk (an (rn ?_)))
 refine ab (an (rn ?_))
 refine jB ⟨mL1,qb,(if ae>v3 then ae else v3),(IntKind.i64.wrap (aa+1)),?_,?_,?_,?_,?_,?_,?_,h⟩
 all_goals simp +decide only [F,reduceIte,Nat.reduceAdd,qB,qC,EN, *,-h]
instance:bH 226 (type_of% @aBR):=⟨@aBR⟩
theorem aAi (p0 r) (h:wD p0=some r):Sc 227 [aX (M.aE.en p0)] [rB r]:=by
 have i1:=inv λm s=>∃v10:Int,(s.t 1=vP 1 1 0/\s.t 8=vL M.aFE.en p0.aE6/\s.t 9=vI (List.length p0.aE6:Int)/\s.t 10=vI v10/\s.h 1=(1,oX 31 (M.aE.en p0)))/\eT p0 m v10=some r
 have e1:=@eT.eq_2
 have i2:=λ(v10:Int) (x8:M.aFE) (af:Int->Option Bool) (s1:St)=>inv λm s=>∃aa:Int,(s.t 1=vP 1 1 0/\s.t 4=vP 4 ((s1.h 4).1+1) 0/\s.t 8=vL M.aFE.en p0.aE6/\s.t 9=vI (List.length p0.aE6:Int)/\s.t 10=vI v10/\s.t 42=vL M.aFL.en x8.aFK/\s.t 43=vI (List.length x8.aFK:Int)/\s.t 44=vI aa/\s.h 1=(1,oX 31 (M.aE.en p0))/\s.h 4=(((s1.h 4).1+1),oX 193 (M.aFE.en x8)))/\eU x8 af m aa=some r
 have e2:=@eU.eq_2
 have i3:=λ(v10:Int) (x8:M.aFE) (ah:Int->Option Bool) (s1:St)=>inv λm s=>∃ae:Int,(s.t 1=vP 1 1 0/\s.t 4=vP 4 ((s1.h 4).1+1) 0/\s.t 8=vL M.aFE.en p0.aE6/\s.t 9=vI (List.length p0.aE6:Int)/\s.t 10=vI v10/\s.t 42=vL M.aFL.en x8.aFK/\s.t 43=vI (List.length x8.aFK:Int)/\s.t 44=vI ae/\s.h 1=(1,oX 31 (M.aE.en p0))/\s.h 4=(((s1.h 4).1+1),oX 193 (M.aFE.en x8)))/\eI x8 ah m ae=some r
 have e3:=@eI.eq_2
 unfold wD at h
 exact sgo 81 [.tmp 2] Tryz.func227
instance:bH 227 (type_of% @aAi):=⟨@aAi⟩
theorem aBr (p0 r) (h:wJ p0=some r):Sc 251 [aX (M.aD.en p0)] [rB r]:=by
 have i1:=inv λm s=>∃v8:Int,(s.t 1=vP 1 1 0/\s.t 6=vL M.Field.en p0.aFA/\s.t 7=vI (List.length p0.aFA:Int)/\s.t 8=vI v8/\s.h 1=(1,oX 254 (M.aD.en p0)))/\gU p0 m v8=some r
 have e1:=@gU.eq_2
 unfold wJ at h
 exact sgo 44 [.tmp 2] Tryz.func251
instance:bH 251 (type_of% @aBr):=⟨@aBr⟩
theorem aCq (p0 p1 p2 r) (h:uS p0 p1 p2=some r):Sc 392 [aX (M.aFP.en p0),aX (M.aFP.en p1),aS p2] [rB r]:=by unfold uS at h;exact sgo 41 [.tmp 6] Tryz.func392
instance:bH 392 (type_of% @aCq):=⟨@aCq⟩
theorem aBT (p0 r) (h:mR p0=some r):Sc 151 [aX (M.bD.en p0)] [rB r]:=by unfold mR at h;exact sgo 26 [.tmp 2] Tryz.func151
instance:bH 151 (type_of% @aBT):=⟨@aBT⟩
theorem c71 (p0 r) (h:uN p0=some r):Sc 71 [aX (M.aR.en p0)] [rB r]:=by
 have i1:=inv λm s=>∃v10:Int,(s.t 1=vP 1 1 0/\s.t 8=vL M.mZ.en p0.aFM/\s.t 9=vI (List.length p0.aFM:Int)/\s.t 10=vI v10/\s.h 1=(1,oX 68 (M.aR.en p0)))/\fL p0 m v10=some r
 have e1:=@fL.eq_2
 have i2:=λ(v10:Int) (x8:M.mZ) (ae:Int->Option Bool) (s1:St)=>inv λm s=>∃aa:Int,(s.t 1=vP 1 1 0/\s.t 4=vP 4 ((s1.h 4).1+1) 0/\s.t 8=vL M.mZ.en p0.aFM/\s.t 9=vI (List.length p0.aFM:Int)/\s.t 10=vI v10/\s.t 28=vL M.mZ.en (List.take v10.toNat p0.aFM)/\s.t 29=vI (List.length (List.take v10.toNat p0.aFM):Int)/\s.t 30=vI aa/\s.h 1=(1,oX 68 (M.aR.en p0))/\s.h 4=(((s1.h 4).1+1),oX 154 (M.mZ.en x8)))/\cP p0 v10 x8 ae m aa=some r
 have e2:=@cP.eq_2
 unfold uN at h
 exact sgo 64 [.tmp 2] Tryz.func71
instance:bH 71 (type_of% @c71):=⟨@c71⟩
theorem c72 (p0 r) (h:xM p0=some r):Sc 72 [aX (M.bC.en p0)] [rB r]:=by
 have i1:=inv λm s=>∃v8:Int,(s.t 1=vP 1 1 0/\s.t 6=vL M.aU.en p0.aU/\s.t 7=vI (List.length p0.aU:Int)/\s.t 8=vI v8/\s.h 1=(1,oX 96 (M.bC.en p0)))/\rC p0 m v8=some r
 have e1:=@rC.eq_2
 unfold xM at h
 exact sgo 48 [.tmp 2] Tryz.func72
instance:bH 72 (type_of% @c72):=⟨@c72⟩
theorem c73 (p0 r) (h:xI p0=some r):Sc 73 [aX (M.aFD.en p0)] [rB r]:=by
 have i1:=inv λm s=>∃v8:Int,(s.t 1=vP 1 1 0/\s.t 6=vL enS p0.aFe/\s.t 7=vI (List.length p0.aFe:Int)/\s.t 8=vI v8/\s.h 1=(1,oX 85 (M.aFD.en p0)))/\kE p0 m v8=some r
 have e1:=@kE.eq_2
 unfold xI at h
 exact sgo 45 [.tmp 2] Tryz.func73
instance:bH 73 (type_of% @c73):=⟨@c73⟩
theorem aBJ (p0 p1 r) (h:uD p0 p1=some r):Sc 192 [aI p0,aL enI p1] [rI r]:=by unfold uD at h;exact sgo 13 [.tmp 4] Tryz.func192
instance:bH 192 (type_of% @aBJ):=⟨@aBJ⟩
theorem aEb (p0 p1 r) (h:pD p0 p1=some r):Sc 319 [aX (M.aFL.en p0),aX (M.aFL.en p1)] [rB r]:=by unfold pD at h;exact sgo 24 [.tmp 4] Tryz.func319
theorem Y5 (p0 p1 r) (h:gQ p0 p1=some r):Sc 164 [aX (M.aC.en p0),aX (M.aC.en p1)] [rB r]:=by
 unfold gQ at h
 simp only [EN]
 refine sgn 24 [.tmp 4] Tryz.func164 λbase wd => ?_
 refine sq (rn ?_)
 refine an (sq ?_)
 rcases Cf (p0.Name.toList==p1.Name.toList) with b1 | b1
 ·replace h:=cM b1 h;refine rn ?_;refine an (rt ?_);cases h;simp [Ret,TB,EN, *]
 replace h:=cN b1 h
 rcases Cf (p0.aFZ==p1.aFZ) with b2 | b2
 ·replace h:=cM b2 h;refine rn ?_;refine an (rt ?_);cases h;simp [Ret,TB,EN, *]
 replace h:=cN b2 h
 obtain ⟨x3,h4,h⟩:=bind_some h
 refine rn1 (aEK p0.aE7 p1.aE7 (λz0 z1=>sI z0 z1) 263 [] (λz0 z1 r hr=>aEz z0 z1 r hr) x3 h4) ?_
 refine an (rt ?_)
 cases h
 simp [Ret,TB,EN, *]
instance:bH 164 (type_of% @Y5):=⟨@Y5⟩
end Go.Proofs.YtipmihbgjolaaaaGreat.gen
