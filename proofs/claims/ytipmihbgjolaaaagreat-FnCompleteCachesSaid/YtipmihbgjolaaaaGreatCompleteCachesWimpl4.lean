/-
  Helper text. No conditions.
-/
import Derived.Test.YtipmihbgjolaaaaGreatCompleteCachesTi
import Derived.Test.YtipmihbgjolaaaaGreatCompleteCachesWimpl1
import Derived.Test.YtipmihbgjolaaaaGreatCompleteCachesWimpl2
import Derived.Test.YtipmihbgjolaaaaGreatCompleteCachesWimpl3
set_option linter.unusedVariables false
set_option linter.unusedSimpArgs false
namespace Go.Proofs.YtipmihbgjolaaaaGreat.gen
open Go Go.Sh
set_option maxRecDepth 20000
set_option maxHeartbeats 4000000
theorem aCk (p0 p1 r) (h:vC p0 p1=some r):Sc 192 [aI p0,aL enI p1] [rI r]:=by unfold vC at h;exact sgo 13 [.tmp 4] Tryz.func192
instance:bF 192 (type_of% @aCk):=⟨@aCk⟩
theorem aEs (p0 r) (h:uG p0=some r):Sc 221 [aX (M.aGh.en p0)] [(true,M.aGh.rs r)]:=by
 have i1:=D5 [.b 3 2 7050000 40 3] λm s=>∃af:Int,∃aa:List M.aD,∃ae:Nat,(s.t 2=vP 2 1 0/\s.t 3=vP 3 1 0/\s.t 16=vL M.aD.en p0.aGq/\s.t 17=vI (List.length p0.aGq:Int)/\s.t 18=vI af/\s.h 2=(1,LF)/\s.h 3=(1,oB 35 [cS p0.Name,cI p0.aGg,.row 7050000 ae,.row 100010 2])/\s.h 100010=(2,oW 282 2 M.aO.en p0.aG3)/\s.h 7050000=(ae,oW 40 3 M.aD.en aa))/\gW p0 m af aa=some r
 have e1:=@gW.eq_2
 unfold uG at h
 exact sgo 31 [.cell 2 35] Tryz.func221
instance:bF 221 (type_of% @aEs):=⟨@aEs⟩
theorem aCR (p0 r) (h:wE p0=some r):Sc 129 [aX (M.aH.en p0)] [(true,M.aH.rs r)]:=by unfold wE at h;exact sgo 12 [.cell 2 47] Tryz.func129
instance:bF 129 (type_of% @aCR):=⟨@aCR⟩
theorem aBu (p0 r) (h:xL p0=some r):Sc 172 [aX (M.aGr.en p0)] [(true,M.aGr.rs r)]:=by unfold xL at h;exact sgo 15 [.cell 2 137] Tryz.func172
instance:bF 172 (type_of% @aBu):=⟨@aBu⟩
theorem aCr (p0 r) (h:wH p0=some r):Sc 226 [aX (M.aGf.en p0)] [rB r]:=by
 unfold wH at h
 simp only [EN]
 refine sgn 37 [.tmp 2] Tryz.func226 λbase wd => ?_
 refine sq (rn ?_)
 refine an (sq (rn ?_))
 refine an (sq (sq (rn ?_)))
 refine an (bk ?_)
 refine cu (λs=>s.t 1=vP 1 1 0/\s.t 3=vI 0/\s.t 12=vR 100012 1/\s.t 13=vI ((3:Nat):Int)/\s.t 14=vI 0/\s.h 1=(1,oX 28 (M.aGf.en p0))/\s.h 100012=(1,oW 3 1 enI ([p0.aHF,p0.aHC,p0.aG6]))/\True) ?_
 rintro s1 f2
 refine IB (λm s=>∃v3:Int,∃aa:Int,s.t 1=vP 1 1 0/\s.t 3=vI v3/\s.t 12=vR 100012 1/\s.t 13=vI ((3:Nat):Int)/\s.t 14=vI aa/\s.h 1=(1,oX 28 (M.aGf.en p0))/\s.h 100012=(1,oW 3 1 enI ([p0.aHF,p0.aHC,p0.aG6]))/\dO p0 m v3 aa=some r) fuel ?_ ?_
 ·refine ⟨0,0,?_,?_,?_,?_,?_,?_,?_,h⟩;all_goals simp +decide only [F,reduceIte,Nat.reduceAdd,qB,qC,EN, *,-h]
 rintro mL1 s9 ⟨v3,aa,f10,f11,f12,f13,f14,f15,f16,h⟩
 rcases mL1 with _ | mL1
 ·exact absurd h (by simp [dO])
 simp only [dO] at h
 refine sq (rn ?_)
 refine an (sq ?_)
 rcases CH (decide (aa<((3:Nat):Int))) with af | af
 ·replace h:=cR af h;refine cf (xt (E2 (EV (J0 (an (sq ?_))))));obtain ⟨av,al,h⟩:=bind_some h;refine rn1 (aAt _ _ al) ?_;refine an (rt ?_);cases h;simp [Ret,TB,EN, *]
 replace h:=cT af h
 refine ct (sk (an (sq (bk (sq ?_)))))
 obtain ⟨ae,ao,h⟩:=bind_some h
 obtain ⟨aw,ax,aq⟩:=Az ao
 have q20m:=congrArg (Option.map enI) (show ([p0.aHF,p0.aHC,p0.aG6])[aa.toNat]? = some ae by assumption)
 simp only [<-List.getElem?_map,List.map_cons,List.map_nil,Option.map_some,EN] at q20m
 simp only [qJ,qK,Nat.reduceAdd] at aq
 refine rn ?_
 refine an (sq (sq ?_))
 obtain ⟨ar,ah,h⟩:=bind_some h
 rcases oQ (!ar) with ai | ai
 ·replace h:=cT ai h;refine rn1 (c70 _ _ _ _ ah) ?_;refine an (ct (sq (rn ?_)));refine an (rt ?_);cases h;simp [Ret,TB,EN, *]
 replace h:=cR ai h
 rcases CH (ae != 0) with aj | aj
 ·replace h:=cR aj h;refine rn1 (c70 _ _ _ _ ah) ?_;refine an (cf (sk (an (rn ?_))));refine ab (an (rn ?_));refine lJ ⟨mL1,qb,(if ae>v3 then ae else v3),(IntKind.i64.wrap (aa+1)),?_,?_,?_,?_,?_,?_,?_,h⟩;all_goals simp +decide only [F,reduceIte,Nat.reduceAdd,qB,qC,EN, *,-h]
 replace h:=cT aj h
 refine rn1 (c70 _ _ _ _ ah) ?_
 refine an ?_
 rcases oQ (decide (ae<=v3)) with ak | ak
 ·replace h:=cT ak h;refine ct (sq (rn ?_));refine an (rt ?_);cases h;simp [Ret,TB,EN, *]
 replace h:=cR ak h
 refine cf (sk (an (rn ?_)))
 refine ab (an (rn ?_))
 refine lJ ⟨mL1,qb,(if ae>v3 then ae else v3),(IntKind.i64.wrap (aa+1)),?_,?_,?_,?_,?_,?_,?_,h⟩
 all_goals simp +decide only [F,reduceIte,Nat.reduceAdd,qB,qC,EN, *,-h]
instance:bF 226 (type_of% @aCr):=⟨@aCr⟩
theorem aB7 (p0 r) (h:wX p0=some r):Sc 227 [aX (M.aC.en p0)] [rB r]:=by
 have i1:=inv λm s=>∃v10:Int,(s.t 1=vP 1 1 0/\s.t 8=vL M.aGo.en p0.aGi/\s.t 9=vI (List.length p0.aGi:Int)/\s.t 10=vI v10/\s.h 1=(1,oX 31 (M.aC.en p0)))/\eZ p0 m v10=some r
 have e1:=@eZ.eq_2
 have i2:=λ(v10:Int) (x8:M.aGo) (af:Int->Option Bool) (s1:St)=>inv λm s=>∃aa:Int,(s.t 1=vP 1 1 0/\s.t 4=vP 4 ((s1.h 4).1+1) 0/\s.t 8=vL M.aGo.en p0.aGi/\s.t 9=vI (List.length p0.aGi:Int)/\s.t 10=vI v10/\s.t 42=vL M.aGw.en x8.aGs/\s.t 43=vI (List.length x8.aGs:Int)/\s.t 44=vI aa/\s.h 1=(1,oX 31 (M.aC.en p0))/\s.h 4=(((s1.h 4).1+1),oX 193 (M.aGo.en x8)))/\fA x8 af m aa=some r
 have e2:=@fA.eq_2
 have i3:=λ(v10:Int) (x8:M.aGo) (ah:Int->Option Bool) (s1:St)=>inv λm s=>∃ae:Int,(s.t 1=vP 1 1 0/\s.t 4=vP 4 ((s1.h 4).1+1) 0/\s.t 8=vL M.aGo.en p0.aGi/\s.t 9=vI (List.length p0.aGi:Int)/\s.t 10=vI v10/\s.t 42=vL M.aGw.en x8.aGs/\s.t 43=vI (List.length x8.aGs:Int)/\s.t 44=vI ae/\s.h 1=(1,oX 31 (M.aC.en p0))/\s.h 4=(((s1.h 4).1+1),oX 193 (M.aGo.en x8)))/\eP x8 ah m ae=some r
 have e3:=@eP.eq_2
 unfold wX at h
 exact sgo 81 [.tmp 2] Tryz.func227
instance:bF 227 (type_of% @aB7):=⟨@aB7⟩
theorem aDI (p0 r) (h:xF p0=some r):Sc 251 [aX (M.aE.en p0)] [rB r]:=by
 have i1:=inv λm s=>∃v8:Int,(s.t 1=vP 1 1 0/\s.t 6=vL M.Field.en p0.aGn/\s.t 7=vI (List.length p0.aGn:Int)/\s.t 8=vI v8/\s.h 1=(1,oX 254 (M.aE.en p0)))/\iA p0 m v8=some r
 have e1:=@iA.eq_2
 unfold xF at h
 exact sgo 44 [.tmp 2] Tryz.func251
instance:bF 251 (type_of% @aDI):=⟨@aDI⟩
theorem aEO (p0 p1 p2 r) (h:vX p0 p1 p2=some r):Sc 392 [aX (M.aG1.en p0),aX (M.aG1.en p1),aS p2] [rB r]:=by unfold vX at h;exact sgo 41 [.tmp 6] Tryz.func392
instance:bF 392 (type_of% @aEO):=⟨@aEO⟩
theorem aCt (p0 r) (h:nI p0=some r):Sc 151 [aX (M.bC.en p0)] [rB r]:=by unfold nI at h;exact sgo 26 [.tmp 2] Tryz.func151
instance:bF 151 (type_of% @aCt):=⟨@aCt⟩
theorem c71 (p0 r) (h:vQ p0=some r):Sc 71 [aX (M.aR.en p0)] [rB r]:=by
 have i1:=inv λm s=>∃v10:Int,(s.t 1=vP 1 1 0/\s.t 8=vL M.nW.en p0.aGy/\s.t 9=vI (List.length p0.aGy:Int)/\s.t 10=vI v10/\s.h 1=(1,oX 68 (M.aR.en p0)))/\fS p0 m v10=some r
 have e1:=@fS.eq_2
 have i2:=λ(v10:Int) (x8:M.nW) (ae:Int->Option Bool) (s1:St)=>inv λm s=>∃aa:Int,(s.t 1=vP 1 1 0/\s.t 4=vP 4 ((s1.h 4).1+1) 0/\s.t 8=vL M.nW.en p0.aGy/\s.t 9=vI (List.length p0.aGy:Int)/\s.t 10=vI v10/\s.t 28=vL M.nW.en (List.take v10.toNat p0.aGy)/\s.t 29=vI (List.length (List.take v10.toNat p0.aGy):Int)/\s.t 30=vI aa/\s.h 1=(1,oX 68 (M.aR.en p0))/\s.h 4=(((s1.h 4).1+1),oX 154 (M.nW.en x8)))/\cV p0 v10 x8 ae m aa=some r
 have e2:=@cV.eq_2
 unfold vQ at h
 exact sgo 64 [.tmp 2] Tryz.func71
instance:bF 71 (type_of% @c71):=⟨@c71⟩
theorem c72 (p0 r) (h:BV p0=some r):Sc 72 [aX (M.bJ.en p0)] [rB r]:=by
 have i1:=inv λm s=>∃v8:Int,(s.t 1=vP 1 1 0/\s.t 6=vL M.aW.en p0.aW/\s.t 7=vI (List.length p0.aW:Int)/\s.t 8=vI v8/\s.h 1=(1,oX 96 (M.bJ.en p0)))/\sA p0 m v8=some r
 have e1:=@sA.eq_2
 unfold BV at h
 exact sgo 48 [.tmp 2] Tryz.func72
instance:bF 72 (type_of% @c72):=⟨@c72⟩
theorem c73 (p0 r) (h:sP p0=some r):Sc 73 [aX (M.aGl.en p0)] [rB r]:=by
 have i1:=inv λm s=>∃v8:Int,(s.t 1=vP 1 1 0/\s.t 6=vL enS p0.aG8/\s.t 7=vI (List.length p0.aG8:Int)/\s.t 8=vI v8/\s.h 1=(1,oX 85 (M.aGl.en p0)))/\kU p0 m v8=some r
 have e1:=@kU.eq_2
 unfold sP at h
 exact sgo 45 [.tmp 2] Tryz.func73
instance:bF 73 (type_of% @c73):=⟨@c73⟩
theorem aGF (p0 p1 r) (h:pW p0 p1=some r):Sc 319 [aX (M.aGw.en p0),aX (M.aGw.en p1)] [rB r]:=by unfold pW at h;exact sgo 24 [.tmp 4] Tryz.func319
theorem aAU (p0 p1 r) (h:gZ p0 p1=some r):Sc 164 [aX (M.aD.en p0),aX (M.aD.en p1)] [rB r]:=by
 unfold gZ at h
 simp only [EN]
 refine sgn 24 [.tmp 4] Tryz.func164 λbase wd => ?_
 refine sq (rn ?_)
 refine an (sq ?_)
 rcases CH (p0.Name.toList==p1.Name.toList) with b1 | b1
 ·replace h:=cR b1 h;refine rn ?_;refine an (rt ?_);cases h;simp [Ret,TB,EN, *]
 replace h:=cT b1 h
 rcases CH (p0.aHD==p1.aHD) with b2 | b2
 ·replace h:=cR b2 h;refine rn ?_;refine an (rt ?_);cases h;simp [Ret,TB,EN, *]
 replace h:=cT b2 h
 obtain ⟨x3,h4,h⟩:=bind_some h
 refine rn1 (aFy p0.aGk p1.aGk (λz0 z1=>tI z0 z1) 263 [] (λz0 z1 r hr=>aGc z0 z1 r hr) x3 h4) ?_
 refine an (rt ?_)
 cases h
 simp [Ret,TB,EN, *]
instance:bF 164 (type_of% @aAU):=⟨@aAU⟩
end Go.Proofs.YtipmihbgjolaaaaGreat.gen
