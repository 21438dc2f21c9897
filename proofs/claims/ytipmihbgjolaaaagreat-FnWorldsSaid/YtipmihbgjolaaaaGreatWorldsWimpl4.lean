/-
  Helper text. No conditions.
-/
import Derived.Test.YtipmihbgjolaaaaGreatWorldsTi
import Derived.Test.YtipmihbgjolaaaaGreatWorldsWimpl0
import Derived.Test.YtipmihbgjolaaaaGreatWorldsWimpl1
import Derived.Test.YtipmihbgjolaaaaGreatWorldsWimpl2
import Derived.Test.YtipmihbgjolaaaaGreatWorldsWimpl3
import Derived.Test.YtipmihbgjolaaaaGreatWorldsWlib
set_option linter.unusedVariables false
set_option linter.unusedSimpArgs false
namespace Go.Proofs.YtipmihbgjolaaaaGreat.gen
open Go Go.Sh
set_option maxRecDepth 20000
set_option maxHeartbeats 4000000
theorem W2 (p0 r) (h:rV p0=some r):Sc 226 [aX (M.aAC.en p0)] [rB r]:=by
 unfold rV at h
 simp only [EN]
 refine sgn 37 [.tmp 2] Tryz.func226 λbase wd => ?_
 refine sq (rn ?_)
 refine an (sq (rn ?_))
 refine an (sq (sq (rn ?_)))
 refine an (bk ?_)
 refine cu (λs=>s.t 1=vP 1 1 0/\s.t 3=vI 0/\s.t 12=vR 100012 1/\s.t 13=vI ((3:Nat):Int)/\s.t 14=vI 0/\s.h 1=(1,oX 28 (M.aAC.en p0))/\s.h 100012=(1,oW 3 1 enI ([p0.aAr,p0.aAl,p0.aAc]))/\True) ?_
 rintro s1 f2
 refine ES (λm s=>∃v3:Int,∃aa:Int,s.t 1=vP 1 1 0/\s.t 3=vI v3/\s.t 12=vR 100012 1/\s.t 13=vI ((3:Nat):Int)/\s.t 14=vI aa/\s.h 1=(1,oX 28 (M.aAC.en p0))/\s.h 100012=(1,oW 3 1 enI ([p0.aAr,p0.aAl,p0.aAc]))/\dC p0 m v3 aa=some r) fuel ?_ ?_
 ·refine ⟨0,0,?_,?_,?_,?_,?_,?_,?_,h⟩;all_goals simp +decide only [F,reduceIte,Nat.reduceAdd,qB,qC,EN, *,-h]
 rintro mL1 s9 ⟨v3,aa,f10,f11,f12,f13,f14,f15,f16,h⟩
 rcases mL1 with _ | mL1
 ·exact absurd h (by simp [dC])
 simp only [dC] at h
 refine sq (rn ?_)
 refine an (sq ?_)
 rcases zD (decide (aa<((3:Nat):Int))) with af | af
 ·replace h:=cE af h;refine cf (xt (BA (Br (E7 (an (sq ?_))))));obtain ⟨av,al,h⟩:=bind_some h;refine rn1 (VA _ _ al) ?_;refine an (rt ?_);cases h;simp [Ret,TB,EN, *]
 replace h:=cF af h
 refine ct (sk (an (sq (bk (sq ?_)))))
 obtain ⟨ae,ao,h⟩:=bind_some h
 obtain ⟨aw,ax,aq⟩:=tT ao
 have q20m:=congrArg (Option.map enI) (show ([p0.aAr,p0.aAl,p0.aAc])[aa.toNat]? = some ae by assumption)
 simp only [<-List.getElem?_map,List.map_cons,List.map_nil,Option.map_some,EN] at q20m
 simp only [qJ,qK,Nat.reduceAdd] at aq
 refine rn ?_
 refine an (sq (sq ?_))
 obtain ⟨ar,ah,h⟩:=bind_some h
 rcases nY (!ar) with ai | ai
 ·replace h:=cF ai h;refine rn1 (c70 _ _ _ _ ah) ?_;refine an (ct (sq (rn ?_)));refine an (rt ?_);cases h;simp [Ret,TB,EN, *]
 replace h:=cE ai h
 rcases zD (ae != 0) with aj | aj
 ·replace h:=cE aj h;refine rn1 (c70 _ _ _ _ ah) ?_;refine an (cf (sk (an (rn ?_))));refine ab (an (rn ?_));refine gF ⟨mL1,qb,(if ae>v3 then ae else v3),(IntKind.i64.wrap (aa+1)),?_,?_,?_,?_,?_,?_,?_,h⟩;all_goals simp +decide only [F,reduceIte,Nat.reduceAdd,qB,qC,EN, *,-h]
 replace h:=cF aj h
 refine rn1 (c70 _ _ _ _ ah) ?_
 refine an ?_
 rcases nY (decide (ae<=v3)) with ak | ak
 ·replace h:=cF ak h;refine ct (sq (rn ?_));refine an (rt ?_);cases h;simp [Ret,TB,EN, *]
 replace h:=cE ak h
 refine cf (sk (an (rn ?_)))
 refine ab (an (rn ?_))
 refine gF ⟨mL1,qb,(if ae>v3 then ae else v3),(IntKind.i64.wrap (aa+1)),?_,?_,?_,?_,?_,?_,?_,h⟩
 all_goals simp +decide only [F,reduceIte,Nat.reduceAdd,qB,qC,EN, *,-h]
instance:cA 226 (type_of% @W2):=⟨@W2⟩
theorem Wp (p0 r) (h:sP p0=some r):Sc 227 [aX (M.aF.en p0)] [rB r]:=by
 have i1:=inv λm s=>∃v10:Int,(s.t 1=vP 1 1 0/\s.t 8=vL M.aAL.en p0.aAE/\s.t 9=vI (List.length p0.aAE:Int)/\s.t 10=vI v10/\s.h 1=(1,oX 31 (M.aF.en p0)))/\eE p0 m v10=some r
 have e1:=@eE.eq_2
 have i2:=λ(v10:Int) (x8:M.aAL) (af:Int->Option Bool) (s1:St)=>inv λm s=>∃aa:Int,(s.t 1=vP 1 1 0/\s.t 4=vP 4 ((s1.h 4).1+1) 0/\s.t 8=vL M.aAL.en p0.aAE/\s.t 9=vI (List.length p0.aAE:Int)/\s.t 10=vI v10/\s.t 42=vL M.aAR.en x8.aAN/\s.t 43=vI (List.length x8.aAN:Int)/\s.t 44=vI aa/\s.h 1=(1,oX 31 (M.aF.en p0))/\s.h 4=(((s1.h 4).1+1),oX 193 (M.aAL.en x8)))/\eF x8 af m aa=some r
 have e2:=@eF.eq_2
 have i3:=λ(v10:Int) (x8:M.aAL) (ah:Int->Option Bool) (s1:St)=>inv λm s=>∃ae:Int,(s.t 1=vP 1 1 0/\s.t 4=vP 4 ((s1.h 4).1+1) 0/\s.t 8=vL M.aAL.en p0.aAE/\s.t 9=vI (List.length p0.aAE:Int)/\s.t 10=vI v10/\s.t 42=vL M.aAR.en x8.aAN/\s.t 43=vI (List.length x8.aAN:Int)/\s.t 44=vI ae/\s.h 1=(1,oX 31 (M.aF.en p0))/\s.h 4=(((s1.h 4).1+1),oX 193 (M.aAL.en x8)))/\dV x8 ah m ae=some r
 have e3:=@dV.eq_2
 unfold sP at h
 exact sgo 81 [.tmp 2] Tryz.func227
instance:cA 227 (type_of% @Wp):=⟨@Wp⟩
theorem Xn (p0 r) (h:sW p0=some r):Sc 251 [aX (M.aC.en p0)] [rB r]:=by
 have i1:=inv λm s=>∃v8:Int,(s.t 1=vP 1 1 0/\s.t 6=vL M.Field.en p0.aAF/\s.t 7=vI (List.length p0.aAF:Int)/\s.t 8=vI v8/\s.h 1=(1,oX 254 (M.aC.en p0)))/\fZ p0 m v8=some r
 have e1:=@fZ.eq_2
 unfold sW at h
 exact sgo 44 [.tmp 2] Tryz.func251
instance:cA 251 (type_of% @Xn):=⟨@Xn⟩
theorem YW (p0 r) (h:sH p0=some r):Sc 152 [aX (M.aA.en p0)] [rB r]:=by
 have i1:=inv λm s=>∃v8:Int,(s.t 1=vP 1 1 0/\s.t 6=vL M.aAQ.en p0.aAD/\s.t 7=vI (List.length p0.aAD:Int)/\s.t 8=vI v8/\s.h 1=(1,oX 40 (M.aA.en p0)))/\gU p0 m v8=some r
 have e1:=@gU.eq_2
 unfold sH at h
 exact sgo 55 [.tmp 2] Tryz.func152
instance:cA 152 (type_of% @YW):=⟨@YW⟩
theorem Ye (p0 p1 p2 r) (h:rK p0 p1 p2=some r):Sc 392 [aX (M.aAQ.en p0),aX (M.aAQ.en p1),aS p2] [rB r]:=by unfold rK at h;exact sgo 41 [.tmp 6] Tryz.func392
instance:cA 392 (type_of% @Ye):=⟨@Ye⟩
theorem Xi (p0 p1 r) (h:wX p0 p1=some r):Sc 364 [aX (M.aA.en p0),aS p1] [rW 284 4 M.aAQ.en r]:=by
 have i1:=inv λm s=>∃ah:Int,∃ae:List M.aAQ,∃af:Nat,(s.t 1=vS p1/\s.t 5=vR 100011 af/\s.t 13=vL M.aAQ.en p0.aAD/\s.t 14=vI (List.length p0.aAD:Int)/\s.t 15=vI ah/\s.h 100011=(af,oW 284 4 M.aAQ.en ae))/\jH p0 p1 m ah ae=some r
 have e1:=@jH.eq_2
 have i2:=λ(ah:Int) (ae:List M.aAQ) (ai:M.aAQ) (aj:Int->Option (List M.aAQ)) (s7:St) (af:Nat)=>inv λm s=>∃aa:Int,(s.t 1=vS p1/\s.t 5=vR 100011 af/\s.t 7=vP 7 ((s7.h 7).1+1) 0/\s.t 10=vI aa/\s.t 13=vL M.aAQ.en p0.aAD/\s.t 14=vI (List.length p0.aAD:Int)/\s.t 15=vI ah/\s.h 7=(((s7.h 7).1+1),oX 284 (M.aAQ.en ai))/\s.h 100011=(af,oW 284 4 M.aAQ.en ae))/\lU p1 ae ai aj m aa=some r
 have e2:=@lU.eq_2
 unfold wX at h
 exact sgo 52 [.tmp 4] Tryz.func364
instance:cA 364 (type_of% @Xi):=⟨@Xi⟩
theorem W3 (p0 r) (h:kS p0=some r):Sc 151 [aX (M.bA.en p0)] [rB r]:=by unfold kS at h;exact sgo 26 [.tmp 2] Tryz.func151
instance:cA 151 (type_of% @W3):=⟨@W3⟩
theorem Zg (p0 r) (h:vJ p0=some r):Sc 309 [aX (M.aH.en p0)] [rB r]:=by
 have i1:=inv λm s=>∃aa:Int,(s.t 1=vP 1 1 0/\s.t 3=vI (List.length p0.aAP:Int)/\s.t 10=vL M.bA.en p0.aAP/\s.t 11=vI (List.length p0.aAP:Int)/\s.t 12=vI aa/\s.h 1=(1,oX 43 (M.aH.en p0)))/\kG p0 m aa=some r
 have e1:=@kG.eq_2
 unfold vJ at h
 exact sgo 51 [.tmp 2] Tryz.func309
instance:cA 309 (type_of% @Zg):=⟨@Zg⟩
theorem Yp (p0 r) (h:pC p0=some r):Sc 248 [aX (M.aC.en p0)] [rW 5 1 enB r]:=by
 have i1:=DW [.t 3 7050000 5 1] λm s=>∃af:Int,∃aa:List Int,∃ae:Nat,(s.t 3=vR 7050000 ae/\s.t 15=vL M.Field.en p0.aAF/\s.t 16=vI (List.length p0.aAF:Int)/\s.t 17=vI af/\s.h 7050000=(ae,oW 5 1 enB aa))/\fU p0 m af aa=some r
 have e1:=@fU.eq_2
 unfold pC at h
 exact sgo 31 [.tmp 2] Tryz.func248
instance:cA 248 (type_of% @Yp):=⟨@Yp⟩
theorem c71 (p0 r) (h:rF p0=some r):Sc 71 [aX (M.cH.en p0)] [rB r]:=by
 have i1:=inv λm s=>∃v10:Int,(s.t 1=vP 1 1 0/\s.t 8=vL M.tV.en p0.aAW/\s.t 9=vI (List.length p0.aAW:Int)/\s.t 10=vI v10/\s.h 1=(1,oX 68 (M.cH.en p0)))/\eS p0 m v10=some r
 have e1:=@eS.eq_2
 have i2:=λ(v10:Int) (x8:M.tV) (ae:Int->Option Bool) (s1:St)=>inv λm s=>∃aa:Int,(s.t 1=vP 1 1 0/\s.t 4=vP 4 ((s1.h 4).1+1) 0/\s.t 8=vL M.tV.en p0.aAW/\s.t 9=vI (List.length p0.aAW:Int)/\s.t 10=vI v10/\s.t 28=vL M.tV.en (List.take v10.toNat p0.aAW)/\s.t 29=vI (List.length (List.take v10.toNat p0.aAW):Int)/\s.t 30=vI aa/\s.h 1=(1,oX 68 (M.cH.en p0))/\s.h 4=(((s1.h 4).1+1),oX 154 (M.tV.en x8)))/\cJ p0 v10 x8 ae m aa=some r
 have e2:=@cJ.eq_2
 unfold rF at h
 exact sgo 64 [.tmp 2] Tryz.func71
instance:cA 71 (type_of% @c71):=⟨@c71⟩
theorem c72 (p0 r) (h:yV p0=some r):Sc 72 [aX (M.bV.en p0)] [rB r]:=by
 have i1:=inv λm s=>∃v8:Int,(s.t 1=vP 1 1 0/\s.t 6=vL M.aU.en p0.aU/\s.t 7=vI (List.length p0.aU:Int)/\s.t 8=vI v8/\s.h 1=(1,oX 96 (M.bV.en p0)))/\nS p0 m v8=some r
 have e1:=@nS.eq_2
 unfold yV at h
 exact sgo 48 [.tmp 2] Tryz.func72
instance:cA 72 (type_of% @c72):=⟨@c72⟩
theorem c73 (p0 r) (h:yI p0=some r):Sc 73 [aX (M.aAO.en p0)] [rB r]:=by
 have i1:=inv λm s=>∃v8:Int,(s.t 1=vP 1 1 0/\s.t 6=vL enS p0.aAo/\s.t 7=vI (List.length p0.aAo:Int)/\s.t 8=vI v8/\s.h 1=(1,oX 85 (M.aAO.en p0)))/\iQ p0 m v8=some r
 have e1:=@iQ.eq_2
 unfold yI at h
 exact sgo 45 [.tmp 2] Tryz.func73
instance:cA 73 (type_of% @c73):=⟨@c73⟩
theorem ZI (p0 p1 r) (h:mX p0 p1=some r):Sc 319 [aX (M.aAR.en p0),aX (M.aAR.en p1)] [rB r]:=by unfold mX at h;exact sgo 24 [.tmp 4] Tryz.func319
theorem Zr (p0 p1 r) (h:nH p0 p1=some r):Sc 240 [aX (M.aAL.en p0),aX (M.aAL.en p1)] [rB r]:=by
 unfold nH at h
 simp only [EN]
 refine sgn 17 [.tmp 4] Tryz.func240 λbase wd => ?_
 refine sq (rn ?_)
 refine an (sq ?_)
 rcases zD (p0.aAB==p1.aAB) with b1 | b1
 ·replace h:=cE b1 h;refine rn ?_;refine an (rt ?_);cases h;simp [Ret,TB,EN, *]
 replace h:=cF b1 h
 obtain ⟨x2,h3,h⟩:=bind_some h
 refine rn1 (Z4 p0.aAN p1.aAN (λz0 z1=>mX z0 z1) 319 [] (λz0 z1 r hr=>ZI z0 z1 r hr) x2 h3) ?_
 refine an (rt ?_)
 cases h
 simp [Ret,TB,EN, *]
theorem Vc (p0 p1 r) (h:fV p0 p1=some r):Sc 164 [aX (M.aA.en p0),aX (M.aA.en p1)] [rB r]:=by
 unfold fV at h
 simp only [EN]
 refine sgn 24 [.tmp 4] Tryz.func164 λbase wd => ?_
 refine sq (rn ?_)
 refine an (sq ?_)
 rcases zD (p0.Name.toList==p1.Name.toList) with b1 | b1
 ·replace h:=cE b1 h;refine rn ?_;refine an (rt ?_);cases h;simp [Ret,TB,EN, *]
 replace h:=cF b1 h
 rcases zD (p0.aAd==p1.aAd) with b2 | b2
 ·replace h:=cE b2 h;refine rn ?_;refine an (rt ?_);cases h;simp [Ret,TB,EN, *]
 replace h:=cF b2 h
 obtain ⟨x3,h4,h⟩:=bind_some h
 refine rn1 (Zs p0.aAD p1.aAD (λz0 z1=>oR z0 z1) 263 [] (λz0 z1 r hr=>Z6 z0 z1 r hr) x3 h4) ?_
 refine an (rt ?_)
 cases h
 simp [Ret,TB,EN, *]
instance:cA 164 (type_of% @Vc):=⟨@Vc⟩
theorem YO (p0 p1 r) (h:mP p0 p1=some r):Sc 241 [aX (M.aAA.en p0),aX (M.aAA.en p1)] [rB r]:=by
 unfold mP at h
 simp only [EN]
 refine sgn 31 [.tmp 4] Tryz.func241 λbase wd => ?_
 refine sq (rn ?_)
 refine an (sq ?_)
 rcases zD (p0.Name.toList==p1.Name.toList) with b1 | b1
 ·replace h:=cE b1 h;refine rn ?_;refine an (rt ?_);cases h;simp [Ret,TB,EN, *]
 replace h:=cF b1 h
 rcases zD (p0.aAB==p1.aAB) with b2 | b2
 ·replace h:=cE b2 h;refine rn ?_;refine an (rt ?_);cases h;simp [Ret,TB,EN, *]
 replace h:=cF b2 h
 obtain ⟨x3,h4,h⟩:=bind_some h
 rcases zD x3 with b5 | b5
 ·replace h:=cE b5 h;refine rn1 (Xx p0.aAH p1.aAH (λz0 z1=>fV z0 z1) 164 [] (λz0 z1 r hr=>Vc z0 z1 r hr) x3 h4) ?_;refine an (rt ?_);cases h;simp [Ret,TB,EN, *]
 replace h:=cF b5 h
 obtain ⟨x6,h7,h⟩:=bind_some h
 refine rn2 (Xx p0.aAH p1.aAH (λz0 z1=>fV z0 z1) 164 [] (λz0 z1 r hr=>Vc z0 z1 r hr) x3 h4) (Zv _ _ _ h7) ?_
 refine an (rt ?_)
 cases h
 simp [Ret,TB,EN, *]
instance:cA 241 (type_of% @YO):=⟨@YO⟩
theorem YQ (p0 p1 r) (h:nV p0 p1=some r):Sc 139 [aX (M.aG.en p0),aX (M.aG.en p1)] [rB r]:=by unfold nV at h;exact sgo 24 [.tmp 4] Tryz.func139
instance:cA 139 (type_of% @YQ):=⟨@YQ⟩
theorem c96 (p0 p1 r) (h:mB p0 p1=some r):Sc 96 [aX (M.aAI.en p0),aX (M.aAI.en p1)] [rB r]:=by unfold mB at h;exact sgo 24 [.tmp 4] Tryz.func96
end Go.Proofs.YtipmihbgjolaaaaGreat.gen
